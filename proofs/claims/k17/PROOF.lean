import PyProof.Rows.All
import Wide.All
import OpenK.AllK
import Wide.FinOn
import HandS.ForMost
import HandS.Wide
import HandS.IsInst
import HandS.Flow
import PyProof.Rows.SortShellAny
import HandS.WordsExc
import HandS.Defaults
import HandS.Head0
import HandS.Head1
import HandS.Head2
import HandS.HeadEnd
import HandS.HeadHook1
import HandS.HeadHook2
import KE.KRevSl
import KE.GoesZip
import HandS.Zip0
import HandS.Conv
import HandS.More
import HandS.NoneIn
import PySem.Challenge.RW_wordsapart_k17_words_heard
set_option Elab.async false
set_option linter.all false
set_option maxRecDepth 100000
set_option maxHeartbeats 1000000
/-! WA1: values by content (PyData), slots, the tie between slots and the heap. -/
namespace WA
open PySem PySem.Spec PyProof.Rows L2

abbrev D := PyData

/-! a value by its content, over the heap S: every list and tuple in it stands in S -/
mutual
inductive Rp (S : Hp) : V → D → Prop
  | non : Rp S .non .none
  | bl (b : Bool) : Rp S (.bl b) (.bool b)
  | int (i : Int) : Rp S (.int i) (.int i)
  | str (x : Str) : Rp S (.str x) (.str x)
  | lst {a : Addr} {xs : List V} {ds : List D} : S a = some (.lst xs) → RpAll S xs ds → Rp S (.ref a) (.list ds)
  | tup {a : Addr} {xs : List V} {ds : List D} : S a = some (.tup xs) → RpAll S xs ds → Rp S (.ref a) (.tuple ds)
inductive RpAll (S : Hp) : List V → List D → Prop
  | nil : RpAll S [] []
  | cons {v : V} {vs : List V} {d : D} {ds : List D} : Rp S v d → RpAll S vs ds → RpAll S (v :: vs) (d :: ds)
end
section
variable {K : PySem.W.Frag} {S S' : Hp}
mutual
theorem rp_mono (e : Same S S') : ∀ (d : D) (v : V), Rp S v d → Rp S' v d
  | .none, _, h => by cases h; exact .non
  | .bool b, _, h => by cases h; exact .bl b
  | .int i, _, h => by cases h; exact .int i
  | .str x, _, h => by cases h; exact .str x
  | .list ds, _, h => by
    cases h with
    | lst hs ha => exact .lst (e _ _ hs) (rps_mono e ds _ ha)
  | .tuple ds, _, h => by
    cases h with
    | tup hs ha => exact .tup (e _ _ hs) (rps_mono e ds _ ha)
  | .dict _, _, h => by cases h
theorem rps_mono (e : Same S S') : ∀ (ds : List D) (vs : List V), RpAll S vs ds → RpAll S' vs ds
  | [], _, h => by cases h; exact .nil
  | d :: ds, _, h => by
    cases h with
    | cons h1 h2 => exact .cons (rp_mono e d _ h1) (rps_mono e ds _ h2)
end
mutual
theorem rp_dp : ∀ (d : D) (v : V), Rp S v d → Dp K S v d
  | .none, _, h => by cases h; exact .non
  | .bool b, _, h => by cases h; exact .bl b
  | .int i, _, h => by cases h; exact .int i
  | .str x, _, h => by cases h; exact .str x
  | .list ds, _, h => by
    cases h with
    | lst hs ha => exact .lst (.of hs) (rps_dp ds _ ha)
  | .tuple ds, _, h => by
    cases h with
    | tup hs ha => exact .tup (.of hs) (rps_dp ds _ ha)
  | .dict _, _, h => by cases h
theorem rps_dp : ∀ (ds : List D) (vs : List V), RpAll S vs ds → DpAll K S vs ds
  | [], _, h => by cases h; exact .nil
  | d :: ds, _, h => by
    cases h with
    | cons h1 h2 => exact .cons (rp_dp d _ h1) (rps_dp ds _ h2)
end
end
theorem Rp.mono {S S' : Hp} {v : V} {d : D} (h : Rp S v d) (e : Same S S') : Rp S' v d := rp_mono e d v h
theorem RpAll.mono {S S' : Hp} {vs : List V} {ds : List D} (h : RpAll S vs ds) (e : Same S S') : RpAll S' vs ds := rps_mono e ds vs h
theorem Rp.dp {K : PySem.W.Frag} {S : Hp} {v : V} {d : D} (h : Rp S v d) : Dp K S v d := rp_dp d v h
theorem RpAll.dp {K : PySem.W.Frag} {S : Hp} {vs : List V} {ds : List D} (h : RpAll S vs ds) : DpAll K S vs ds := rps_dp ds vs h
section
variable {S : Hp}
theorem rps_len : ∀ {vs : List V} {ds : List D}, RpAll S vs ds → vs.length = ds.length
  | _, _, .nil => rfl
  | _, _, .cons _ t => congrArg (· + 1) (rps_len t)
theorem rps_app : ∀ {vs ws : List V} {ds es : List D}, RpAll S vs ds → RpAll S ws es → RpAll S (vs ++ ws) (ds ++ es)
  | _, _, _, _, .nil, h => h
  | _, _, _, _, .cons a t, h => .cons a (rps_app t h)
theorem rps_one {v : V} {d : D} (h : Rp S v d) : RpAll S [v] [d] := .cons h .nil
theorem rps_get : ∀ {vs : List V} {ds : List D} {i : Nat} {d : D}, RpAll S vs ds → ds[i]? = some d → ∃ v, vs[i]? = some v ∧ Rp S v d
  | _, _, _, _, .nil, h => by simp at h
  | _, _, 0, _, .cons a _, h => by
    simp at h
    subst h
    exact ⟨_, rfl, a⟩
  | _, _, i + 1, _, .cons _ t, h => by
    obtain ⟨v, h1, h2⟩ := rps_get (i := i) t (by simpa using h)
    exact ⟨v, by simpa using h1, h2⟩
theorem rps_get' : ∀ {vs : List V} {ds : List D} {i : Nat} {v : V}, RpAll S vs ds → vs[i]? = some v → ∃ d, ds[i]? = some d ∧ Rp S v d
  | _, _, _, _, .nil, h => by simp at h
  | _, _, 0, _, .cons a _, h => by
    simp at h
    subst h
    exact ⟨_, rfl, a⟩
  | _, _, i + 1, _, .cons _ t, h => by
    obtain ⟨v, h1, h2⟩ := rps_get' (i := i) t (by simpa using h)
    exact ⟨v, by simpa using h1, h2⟩
theorem rps_take : ∀ {vs : List V} {ds : List D} (n : Nat), RpAll S vs ds → RpAll S (vs.take n) (ds.take n)
  | _, _, 0, _ => .nil
  | _, _, _ + 1, .nil => .nil
  | _, _, n + 1, .cons a t => .cons a (rps_take n t)
theorem rps_drop : ∀ {vs : List V} {ds : List D} (n : Nat), RpAll S vs ds → RpAll S (vs.drop n) (ds.drop n)
  | _, _, 0, h => h
  | _, _, _ + 1, .nil => .nil
  | _, _, n + 1, .cons _ t => rps_drop n t
theorem rps_set : ∀ {vs : List V} {ds : List D} {v : V} {d : D} (n : Nat), RpAll S vs ds → Rp S v d → RpAll S (vs.set n v) (ds.set n d)
  | _, _, _, _, _, .nil, _ => .nil
  | _, _, _, _, 0, .cons _ t, h => .cons h t
  | _, _, _, _, n + 1, .cons a t, h => .cons a (rps_set n t h)
theorem rps_rev : ∀ {vs : List V} {ds : List D}, RpAll S vs ds → RpAll S vs.reverse ds.reverse
  | _, _, .nil => .nil
  | _, _, .cons a t => by
    rw [List.reverse_cons, List.reverse_cons]
    exact rps_app (rps_rev t) (rps_one a)
theorem rps_erase : ∀ {vs : List V} {ds : List D} (n : Nat), RpAll S vs ds → RpAll S (vs.eraseIdx n) (ds.eraseIdx n)
  | _, _, _, .nil => .nil
  | _, _, 0, .cons _ t => t
  | _, _, n + 1, .cons a t => .cons a (rps_erase n t)
theorem rps_dropLast {vs : List V} {ds : List D} (h : RpAll S vs ds) : RpAll S vs.dropLast ds.dropLast := by
  rw [List.dropLast_eq_take, List.dropLast_eq_take, rps_len h]
  exact rps_take _ h
theorem rps_strs : ∀ {vs : List V} {xs : List Str}, RpAll S vs (xs.map PyData.str) → vs = xs.map V.str
  | _, [], h => by cases h; rfl
  | _, x :: xs, h => by
    cases h with
    | cons a t =>
      cases a
      rw [rps_strs t]
      rfl
theorem rps_ints : ∀ {vs : List V} {xs : List Int}, RpAll S vs (xs.map PyData.int) → vs = xs.map V.int
  | _, [], h => by cases h; rfl
  | _, x :: xs, h => by
    cases h with
    | cons a t =>
      cases a
      rw [rps_ints t]
      rfl
theorem rps_bls : ∀ {vs : List V} {xs : List Bool}, RpAll S vs (xs.map PyData.bool) → vs = xs.map V.bl
  | _, [], h => by cases h; rfl
  | _, x :: xs, h => by
    cases h with
    | cons a t =>
      cases a
      rw [rps_bls t]
      rfl
theorem rps_of_strs : ∀ (xs : List Str), RpAll S (xs.map V.str) (xs.map PyData.str)
  | [] => .nil
  | x :: xs => .cons (.str x) (rps_of_strs xs)
theorem rps_of_ints : ∀ (xs : List Int), RpAll S (xs.map V.int) (xs.map PyData.int)
  | [] => .nil
  | x :: xs => .cons (.int x) (rps_of_ints xs)
end

/-- a thing made of parts that stand in slots of their own: a list, a tuple, an instance -/
inductive SK where
  | lst
  | tup
  | ins (C : Addr) (fs : List Str)
def SK.objR (H : Hp) (a : Addr) (vs : List V) : SK → HO → Prop
  | .lst, o => o = .lst vs
  | .tup, o => o = .tup vs
  | .ins C fs, o => fs.length = vs.length ∧ ∃ dx, o = .ins C dx (fs.zip vs) ∧ H dx = some (.own a)
/-- what a slot holds: nothing told, a value, a list that this slot alone holds, a list that is only read -/
inductive Sl where
  | no
  | v (x : D)
  | own (xs : List D)
  | ro (strict : Bool) (xs : List D)
  | st (k : SK) (is : List Nat)
  | al (j : Nat)
abbrev R := List Sl
/-- slots that hold a thing alone -/
def Sl.owns : Sl → Bool
  | .own _ => true
  | .st _ _ => true
  | _ => false
/-- slots that lean on others -/
def Sl.leans : Sl → Bool
  | .st _ _ => true
  | .al _ => true
  | _ => false
def Ow (ρ : R) (i : Nat) (s : Sl) : Prop := ρ[i]? = some s ∧ s.owns = true
theorem ow {ρ : R} {i : Nat} {xs : List D} (h : ρ[i]? = some (.own xs)) : Ow ρ i (.own xs) := ⟨h, rfl⟩

/-- b is the place of a list that a slot holds alone -/
def OwnAt (σ : L2.St) (ρ : R) (b : Addr) : Prop := ∃ (i : Nat) (s : Sl), Ow ρ i s ∧ σ[i]? = some (some (.ref b))
/-- a list of the module's own top -/
def KL (K : PySem.W.Frag) (a : Addr) (xs : List V) : Prop := ∃ (o : Obj) (its : Array Value) (n : Nat), K.lookup a = some o ∧ o.cls = .type "list" ∧ o.dict = none ∧ o.data = .seq its n ∧ its.size ≤ sizeLine ∧ Vals xs its.toList
/-- a list that is only read -/
def RoAt (K : PySem.W.Frag) (H : Hp) (σ : L2.St) (ρ : R) (k : Bool) (a : Addr) (vs : List V) : Prop :=
  (k = false ∧ KL K a vs) ∨ ((∃ o, (o = HO.lst vs ∨ (k = false ∧ ∃ ob, o = .frz ob (.lst vs))) ∧ H a = some o) ∧ ¬ OwnAt σ ρ a)
/-- things made of parts, and second names; B: from here on slots are no names of the text -/
structure VRel (B : Nat) (S H : Hp) (σ : L2.St) (ρ : R) : Prop where
  st : ∀ (i : Nat) (k : SK) (is : List Nat), ρ[i]? = some (.st k is) → ∃ (a : Addr) (vs : List V) (o : HO), σ[i]? = some (some (.ref a)) ∧ S a = none ∧ H a = some o ∧ k.objR H a vs o ∧ Paired (fun (v : V) (m : Nat) => B ≤ m ∧ σ[m]? = some (some v)) vs is
  al : ∀ (i j : Nat), ρ[i]? = some (.al j) → B ≤ j ∧ ∃ v, σ[i]? = some (some v) ∧ σ[j]? = some (some v)
  dx : ∀ (i : Nat) (C : Addr) (fs : List Str) (is : List Nat) (a d : Addr) (us : List (Str × V)), ρ[i]? = some (.st (.ins C fs) is) → σ[i]? = some (some (.ref a)) → H a = some (.ins C d us) → S d = none ∧ ¬ OwnAt σ ρ d
structure Rel (K : PySem.W.Frag) (B : Nat) (S H : Hp) (σ : L2.St) (ρ : R) : Prop where
  len : σ.length = ρ.length
  sub : Same S H
  val : ∀ (i : Nat) (x : D), ρ[i]? = some (.v x) → ∃ w, σ[i]? = some (some w) ∧ Rp S w x
  own : ∀ (i : Nat) (xs : List D), ρ[i]? = some (.own xs) → ∃ (a : Addr) (vs : List V), σ[i]? = some (some (.ref a)) ∧ S a = none ∧ H a = some (.lst vs) ∧ RpAll S vs xs
  ro : ∀ (i : Nat) (k : Bool) (xs : List D), ρ[i]? = some (.ro k xs) → ∃ (a : Addr) (vs : List V), σ[i]? = some (some (.ref a)) ∧ RoAt K H σ ρ k a vs ∧ RpAll S vs xs
  sep : ∀ (i j : Nat) (s t : Sl) (a : Addr), Ow ρ i s → Ow ρ j t → σ[i]? = some (some (.ref a)) → σ[j]? = some (some (.ref a)) → i = j
  vir : VRel B S H σ ρ
theorem VRel.to {B : Nat} {S H S' H' : Hp} {σ σ' : L2.St} {ρ ρ' : R} (v : VRel B S H σ ρ) (h1 : ∀ (i : Nat) (s : Sl), ρ'[i]? = some s → s.leans = true → ρ[i]? = some s ∧ σ'[i]? = σ[i]?) (h2 : ∀ m, B ≤ m → σ'[m]? = σ[m]?)
    (h3 : ∀ (i : Nat) (k : SK) (is : List Nat) (a : Addr) (o : HO), ρ[i]? = some (.st k is) → σ[i]? = some (some (.ref a)) → S a = none → H a = some o → S' a = none ∧ H' a = some o)
    (h4 : ∀ (d c : Addr), H d = some (.own c) → S d = none → ¬ OwnAt σ ρ d → S' d = none ∧ H' d = some (.own c) ∧ ¬ OwnAt σ' ρ' d) : VRel B S' H' σ' ρ' where
  st := fun i k is h => by
    obtain ⟨g1, g2⟩ := h1 i _ h rfl
    obtain ⟨a, vs, o, e1, e2, e3, e4, e5⟩ := v.st i k is g1
    obtain ⟨f1, f2⟩ := h3 i k is a o g1 e1 e2 e3
    refine ⟨a, vs, o, by rw [g2]; exact e1, f1, f2, ?_, Paired.mapP e5 fun v m q => ⟨q.1, by rw [h2 m q.1]; exact q.2⟩⟩
    cases k with
    | lst => exact e4
    | tup => exact e4
    | ins C fs =>
      obtain ⟨l, d, rfl, hd⟩ := e4
      obtain ⟨q1, q2⟩ := v.dx i C fs is a d _ g1 e1 e3
      exact ⟨l, d, rfl, (h4 d _ hd q1 q2).2.1⟩
  al := fun i j h => by
    obtain ⟨g1, g2⟩ := h1 i _ h rfl
    obtain ⟨e1, w, e2, e3⟩ := v.al i j g1
    exact ⟨e1, w, by rw [g2]; exact e2, by rw [h2 j e1]; exact e3⟩
  dx := fun i C fs is a d us h ha hH => by
    obtain ⟨g1, g2⟩ := h1 i _ h rfl
    rw [g2] at ha
    obtain ⟨a', vs, o, e1, e2, e3, e4, e5⟩ := v.st i _ is g1
    rw [ha] at e1
    cases e1
    obtain ⟨f1, f2⟩ := h3 i _ is a o g1 ha e2 e3
    rw [hH] at f2
    cases f2
    obtain ⟨l, d', q, hd⟩ := e4
    cases q
    obtain ⟨q1, q2⟩ := v.dx i C fs is a d _ g1 ha e3
    obtain ⟨r1, _, r2⟩ := h4 d _ hd q1 q2
    exact ⟨r1, r2⟩
theorem RoAt.to {K : PySem.W.Frag} {H H' : Hp} {σ σ' : L2.St} {ρ ρ' : R} {k : Bool} {a : Addr} {vs : List V} (h : RoAt K H σ ρ k a vs) (h1 : ∀ o, H a = some o → ¬ OwnAt σ ρ a → H' a = some o) (h2 : H a ≠ none → OwnAt σ' ρ' a → OwnAt σ ρ a) : RoAt K H' σ' ρ' k a vs := by
  rcases h with h | ⟨⟨o, q, h⟩, n⟩
  · exact .inl h
  · exact .inr ⟨⟨o, q, h1 o h n⟩, fun z => n (h2 (by rw [h]; simp) z)⟩
theorem RoAt.seq {K : PySem.W.Frag} {H : Hp} {σ : L2.St} {ρ : R} {k : Bool} {a : Addr} {vs : List V} (h : RoAt K H σ ρ k a vs) : SqL K H a vs := by
  rcases h with ⟨_, h⟩ | ⟨⟨o, q, h⟩, n⟩
  · exact .inr h
  · rcases q with rfl | ⟨_, ob, rfl⟩
    · exact .inl (.inl h)
    · exact .inl (.inr ⟨ob, h⟩)
theorem RoAt.lst {K : PySem.W.Frag} {H : Hp} {σ : L2.St} {ρ : R} {a : Addr} {vs : List V} (h : RoAt K H σ ρ true a vs) : H a = some (.lst vs) := by
  rcases h with ⟨q, _⟩ | ⟨⟨o, q, h⟩, n⟩
  · cases q
  · rcases q with rfl | ⟨q, _⟩
    · exact h
    · cases q

structure Ext (σ : L2.St) (S H : Hp) (ρ : R) (S' H' : Hp) (ρ' : R) : Prop where
  same : Same S S'
  there : ∀ b, H b ≠ none → H' b ≠ none
  stay : ∀ b, H b ≠ none → S b = none → S' b = none
  keep : ∀ b o, H b = some o → S b = none → ¬ OwnAt σ ρ b → H' b = some o
  kind : ∀ i : Nat, (∃ xs, ρ[i]? = some (.own xs)) ↔ ∃ xs, ρ'[i]? = some (.own xs)
  oth : ∀ i : Nat, (∀ xs, ρ[i]? ≠ some (.own xs)) → ρ'[i]? = ρ[i]?

section
variable {σ : L2.St} {S H S1 H1 S2 H2 : Hp} {ρ ρ1 ρ2 : R} {K : PySem.W.Frag} {B : Nat}
theorem Ext.refl : Ext σ S H ρ S H ρ := ⟨Same.refl _, fun _ h => h, fun _ _ h => h, fun _ _ h _ _ => h, fun _ => Iff.rfl, fun _ _ => rfl⟩
theorem Ext.at (E : Ext σ S H ρ S1 H1 ρ1) {b : Addr} : OwnAt σ ρ b ↔ OwnAt σ ρ1 b := by
  constructor
  · rintro ⟨i, s, ⟨h1, ho⟩, h2⟩
    cases s with
    | own xs =>
      obtain ⟨ys, h3⟩ := (E.kind i).mp ⟨xs, h1⟩
      exact ⟨i, _, ow h3, h2⟩
    | st k is => exact ⟨i, _, ⟨by rw [E.oth i fun xs z => by rw [h1] at z; cases z]; exact h1, rfl⟩, h2⟩
    | _ => cases ho
  · rintro ⟨i, s, ⟨h1, ho⟩, h2⟩
    cases s with
    | own xs =>
      obtain ⟨ys, h3⟩ := (E.kind i).mpr ⟨xs, h1⟩
      exact ⟨i, _, ow h3, h2⟩
    | st k is =>
      have e := E.oth i fun xs z => by
        obtain ⟨ys, h3⟩ := (E.kind i).mp ⟨xs, z⟩
        rw [h1] at h3
        cases h3
      exact ⟨i, _, ⟨by rw [← e]; exact h1, rfl⟩, h2⟩
    | _ => cases ho
theorem Ext.trans (a : Ext σ S H ρ S1 H1 ρ1) (b : Ext σ S1 H1 ρ1 S2 H2 ρ2) : Ext σ S H ρ S2 H2 ρ2 where
  same := a.same.trans b.same
  there := fun c h => b.there c (a.there c h)
  stay := fun c h h' => b.stay c (a.there c h) (a.stay c h h')
  keep := fun c o h h' n => b.keep c o (a.keep c o h h' n) (a.stay c (by rw [h]; simp) h') fun z => n (a.at.mpr z)
  kind := fun i => (a.kind i).trans (b.kind i)
  oth := fun i n => by
    have h1 := a.oth i n
    rw [← h1]
    refine b.oth i fun xs h => ?_
    exact n xs (by rw [← h1]; exact h)
/-- a list (new or not) told of where it stands: its place is no place of ours -/
def ownable : HO → Bool
  | .lst _ => true
  | .tup _ => true
  | .ins _ _ _ => true
  | _ => false
theorem Rel.own_at (h : Rel K B S H σ ρ) {b : Addr} (o : OwnAt σ ρ b) : S b = none ∧ ∃ u, H b = some u ∧ ownable u = true := by
  obtain ⟨i, s, ⟨h1, ho⟩, h2⟩ := o
  cases s with
  | own xs =>
    obtain ⟨a, vs, e1, e2, e3, _⟩ := h.own i xs h1
    rw [h2] at e1
    cases e1
    exact ⟨e2, _, e3, rfl⟩
  | st k is =>
    obtain ⟨a, vs, u, e1, e2, e3, e4, _⟩ := h.vir.st i k is h1
    rw [h2] at e1
    cases e1
    refine ⟨e2, u, e3, ?_⟩
    cases k with
    | lst => rw [show u = .lst vs from e4]; rfl
    | tup => rw [show u = .tup vs from e4]; rfl
    | ins C fs =>
      obtain ⟨_, d, rfl, _⟩ := e4
      rfl
  | _ => cases ho
/-- the heap grows, the known part grows; lists of our own as they were -/
theorem Rel.grow (h : Rel K B S H σ ρ) (e1 : Same S S1) (e2 : Same H H1) (e3 : Same S1 H1) (e4 : ∀ b, H b ≠ none → S b = none → S1 b = none) : Rel K B S1 H1 σ ρ where
  len := h.len
  sub := e3
  val := fun i x hx => by
    obtain ⟨w, a, b⟩ := h.val i x hx
    exact ⟨w, a, b.mono e1⟩
  own := fun i xs hx => by
    obtain ⟨a, vs, b1, b2, b3, b4⟩ := h.own i xs hx
    exact ⟨a, vs, b1, e4 a (by rw [b3]; simp) b2, e2 _ _ b3, b4.mono e1⟩
  ro := fun i k xs hx => by
    obtain ⟨a, vs, b1, b2, b3⟩ := h.ro i k xs hx
    exact ⟨a, vs, b1, b2.to (fun o q _ => e2 _ _ q) (fun _ z => z), b3.mono e1⟩
  sep := h.sep
  vir := h.vir.to (fun _ _ q _ => ⟨q, rfl⟩) (fun _ _ => rfl) (fun _ _ _ a o _ _ q1 q2 => ⟨e4 a (by rw [q2]; simp) q1, e2 _ _ q2⟩) (fun d o q1 q2 n => ⟨e4 d (by rw [q1]; simp) q2, e2 _ _ q1, n⟩)
theorem Ext.grow (e1 : Same S S1) (e2 : Same H H1) (e4 : ∀ b, H b ≠ none → S b = none → S1 b = none) : Ext σ S H ρ S1 H1 ρ where
  same := e1
  there := fun b h => by
    cases q : H b with
    | none => exact absurd q h
    | some o => rw [e2 _ _ q]; simp
  stay := e4
  keep := fun b o h _ _ => e2 _ _ h
  kind := fun _ => Iff.rfl
  oth := fun _ _ => rfl
end
theorem same_upd {H : Hp} {p : Addr} {o : HO} (h : H p = none) : Same H (upd H p o) := fun b x e => by
  rw [upd_ne (ne_of_none e h)]
  exact e
theorem upd_mono {S H : Hp} {p : Addr} {o : HO} (h : Same S H) : Same (upd S p o) (upd H p o) := fun b x e => by
  by_cases hb : b = p
  · subst hb
    rw [upd_same] at e ⊢
    exact e
  · rw [upd_ne hb] at e ⊢
    exact h _ _ e
section
variable {σ : L2.St} {S H : Hp} {ρ : R} {K : PySem.W.Frag} {B : Nat} {p : Addr} {o : HO}
/-- a new object, known from now on -/
theorem Rel.new (h : Rel K B S H σ ρ) (hp : H p = none) : Rel K B (upd S p o) (upd H p o) σ ρ :=
  h.grow (same_upd (h.sub.free hp)) (same_upd hp) (upd_mono h.sub) fun b hb hs => by
    rw [upd_ne (fun z => hb (by rw [z]; exact hp))]
    exact hs
theorem Ext.new (h : Rel K B S H σ ρ) (hp : H p = none) : Ext σ S H ρ (upd S p o) (upd H p o) ρ :=
  .grow (same_upd (h.sub.free hp)) (same_upd hp) fun b hb hs => by
    rw [upd_ne (fun z => hb (by rw [z]; exact hp))]
    exact hs
/-- a new object, not yet among what is known -/
theorem Rel.new0 (h : Rel K B S H σ ρ) (hp : H p = none) : Rel K B S (upd H p o) σ ρ :=
  h.grow (Same.refl _) (same_upd hp) (h.sub.trans (same_upd hp)) fun b _ hs => hs
theorem Ext.new0 (h : Rel K B S H σ ρ) (hp : H p = none) : Ext σ S H ρ S (upd H p o) ρ :=
  .grow (Same.refl _) (same_upd hp) fun b _ hs => hs
/-- what stands in the heap at a place that is no place of ours is taken among what is known -/
theorem Rel.know {us : List V} (h : Rel K B S H σ ρ) (hp : H p = some o) (hn : ¬ OwnAt σ ρ p) (hS : S p = none) (hl : o = .lst us) : Rel K B (upd S p o) H σ ρ where
  len := h.len
  sub := fun b x e => by
    by_cases hb : b = p
    · subst hb
      rw [upd_same] at e
      cases e
      exact hp
    · rw [upd_ne hb] at e
      exact h.sub _ _ e
  val := fun i x hx => by
    obtain ⟨w, a, b⟩ := h.val i x hx
    exact ⟨w, a, b.mono (same_upd hS)⟩
  own := fun i xs hx => by
    obtain ⟨a, vs, b1, b2, b3, b4⟩ := h.own i xs hx
    refine ⟨a, vs, b1, ?_, b3, b4.mono (same_upd hS)⟩
    rw [upd_ne (fun z => hn ⟨i, _, ow hx, by rw [← z]; exact b1⟩)]
    exact b2
  ro := fun i k xs hx => by
    obtain ⟨a, vs, b1, b2, b3⟩ := h.ro i k xs hx
    exact ⟨a, vs, b1, b2, b3.mono (same_upd hS)⟩
  sep := h.sep
  vir := h.vir.to (fun _ _ q _ => ⟨q, rfl⟩) (fun _ _ => rfl) (fun i k is a u q1 q2 q3 q4 => ⟨by rw [upd_ne (fun z => hn ⟨i, _, ⟨q1, rfl⟩, by rw [← z]; exact q2⟩)]; exact q3, q4⟩)
    (fun d c q1 q2 n => ⟨by rw [upd_ne (fun z => by rw [z, hp, hl] at q1; cases q1)]; exact q2, q1, n⟩)
end

/-- names that are none of the text -/
def virt (x : Str) : Bool := x.cps[0]? == some 63
def bd (X : Cx) : Nat := X.N.findIdx virt
/-! ### what an expression is wanted to give, at the machine's side -/
def W (X : Cx) (e : Expr) : TE := fun σ H Q => ∀ (pins : List (Addr × Obj)) (s : Shared), Inv X pins σ H s → wpAny (model X.prog X.w) X.A (eval e X.env) (EP X pins σ Q) X.xe s
def WT (X : Cx) (e : Expr) : TT := fun σ H Q => ∀ (pins : List (Addr × Obj)) (s : Shared), Inv X pins σ H s → wpAny (model X.prog X.w) X.A (isTrue e X.env (eval e X.env)) (TP X pins σ Q) X.xe s
def WS (X : Cx) (st : Stmt) : TS := fun D σ H => ∀ (pins : List (Addr × Obj)) (s : Shared), Inv X pins σ H s → wpAny (model X.prog X.w) X.A (exec st X.env) (SP X pins D) X.xe s
def WSs (X : Cx) (st : List Stmt) : TS := fun D σ H => ∀ (pins : List (Addr × Obj)) (s : Shared), Inv X pins σ H s → wpAny (model X.prog X.w) X.A (execs st X.env) (SP X pins D) X.xe s
section
variable {X : Cx} {e : Expr} {σ : L2.St} {H : Hp}
theorem peW : PE X e (W X e) := ⟨fun pins s _ _ _ I h => h pins s I⟩
theorem ptW : PT X e (WT X e) := ⟨fun pins s _ _ _ I h => h pins s I⟩
theorem psW {st : Stmt} : PS X st (WS X st) := ⟨fun pins s _ _ _ I h => h pins s I⟩
theorem pssW {st : List Stmt} : PSs X st (WSs X st) := ⟨fun pins s _ _ _ I h => h pins s I⟩
theorem W.of {t : TE} {Q : VK} (h : PE X e t) (ht : t σ H Q) : W X e σ H Q := fun pins s I => h.run pins s σ H Q I ht
theorem WT.of {t : TT} {Q : Bool → Hp → Prop} (h : PT X e t) (ht : t σ H Q) : WT X e σ H Q := fun pins s I => h.run pins s σ H Q I ht
theorem WS.of {st : Stmt} {t : TS} {D : Ends} (h : PS X st t) (ht : t D σ H) : WS X st D σ H := fun pins s I => h.run pins s σ H D I ht
theorem WSs.of {st : List Stmt} {t : TS} {D : Ends} (h : PSs X st t) (ht : t D σ H) : WSs X st D σ H := fun pins s I => h.run pins s σ H D I ht
theorem W.mono {Q Q' : VK} (h : W X e σ H Q) (hq : ∀ v H', Q v H' → Q' v H') : W X e σ H Q' := fun pins s I =>
  thn (h pins s I) fun _ _ ⟨v, H', I', r, q⟩ => ⟨v, H', I', r, hq v H' q⟩
theorem WT.mono {Q Q' : Bool → Hp → Prop} (h : WT X e σ H Q) (hq : ∀ v H', Q v H' → Q' v H') : WT X e σ H Q' := fun pins s I =>
  thn (h pins s I) fun _ _ ⟨H', I', q⟩ => ⟨H', I', hq _ H' q⟩
end

/-! ### the judgements over slots -/
abbrev VE := R → (D → R → Prop) → Prop
abbrev VC := R → (Bool → R → Prop) → Prop
/-- what an operand is: a value, or the list of a slot, read when it is asked -/
inductive AV where
  | val (x : D)
  | slot (i : Nat)
abbrev VT := R → (AV → R → Prop) → Prop
def deref (ρ : R) : AV → Option D
  | .val x => some x
  | .slot i => match ρ[i]? with
    | some (.own xs) => some (.list xs)
    | some (.ro _ xs) => some (.list xs)
    | _ => none
def ARep (K : PySem.W.Frag) (S : Hp) (σ : L2.St) (v : V) : AV → Prop
  | .val x => Rp S v x
  | .slot i => σ[i]? = some (some v)
theorem ARep.mono {K : PySem.W.Frag} {S S' : Hp} {σ : L2.St} {v : V} : ∀ {a : AV}, ARep K S σ v a → Same S S' → ARep K S' σ v a
  | .val _, h, e => Rp.mono h e
  | .slot _, h, _ => h
def PostE (X : Cx) (σ : L2.St) (S H : Hp) (ρ : R) (Q : D → R → Prop) : VK := fun v H' => ∃ S' ρ' x, Rel X.K (bd X) S' H' σ ρ' ∧ Ext σ S H ρ S' H' ρ' ∧ Rp S' v x ∧ Q x ρ'
def PostT (X : Cx) (σ : L2.St) (S H : Hp) (ρ : R) (Q : AV → R → Prop) : VK := fun v H' => ∃ S' ρ' x, Rel X.K (bd X) S' H' σ ρ' ∧ Ext σ S H ρ S' H' ρ' ∧ ARep X.K S' σ v x ∧ Q x ρ'
def PostN (X : Cx) (σ : L2.St) (S H : Hp) (ρ : R) (Q : D → R → Prop) : VK := fun v H' => ∃ S' ρ' a vs xs, Rel X.K (bd X) S' H' σ ρ' ∧ Ext σ S H ρ S' H' ρ' ∧ v = .ref a ∧ H a = none ∧ S' a = none ∧ H' a = some (.lst vs) ∧ RpAll S' vs xs ∧ Q (.list xs) ρ'
def PostC (X : Cx) (σ : L2.St) (S H : Hp) (ρ : R) (Q : Bool → R → Prop) : Bool → Hp → Prop := fun b H' => ∃ S' ρ', Rel X.K (bd X) S' H' σ ρ' ∧ Ext σ S H ρ S' H' ρ' ∧ Q b ρ'
/-- a value; an operand; a new list; a test -/
def JE (X : Cx) (e : Expr) (t : VE) : Prop := ∀ σ S H ρ Q, Rel X.K (bd X) S H σ ρ → t ρ Q → W X e σ H (PostE X σ S H ρ Q)
def JT (X : Cx) (e : Expr) (t : VT) : Prop := ∀ σ S H ρ Q, Rel X.K (bd X) S H σ ρ → t ρ Q → W X e σ H (PostT X σ S H ρ Q)
def JN (X : Cx) (e : Expr) (t : VE) : Prop := ∀ σ S H ρ Q, Rel X.K (bd X) S H σ ρ → t ρ Q → W X e σ H (PostN X σ S H ρ Q)
def JC (X : Cx) (e : Expr) (t : VC) : Prop := ∀ σ S H ρ Q, Rel X.K (bd X) S H σ ρ → t ρ Q → WT X e σ H (PostC X σ S H ρ Q)

theorem own_new {K : PySem.W.Frag} {B : Nat} {S H : Hp} {σ : L2.St} {ρ : R} (h : Rel K B S H σ ρ) {a : Addr} (ha : H a = none) : ¬ OwnAt σ ρ a := fun z => by
  obtain ⟨_, vs, e, _⟩ := h.own_at z
  rw [ha] at e
  cases e
theorem JN.e {X : Cx} {e : Expr} {t : VE} (h : JN X e t) : JE X e t := by
  intro σ S H ρ Q hR ht
  refine (h σ S H ρ Q hR ht).mono fun v H1 q => ?_
  obtain ⟨S1, ρ1, a, vs, xs, R1, E1, rfl, ha, hs, hl, hd, q⟩ := q
  have hn : ¬ OwnAt σ ρ1 a := fun z => own_new hR ha (E1.at.mpr z)
  refine ⟨upd S1 a (.lst vs), ρ1, .list xs, R1.know hl hn hs rfl, ⟨E1.same.trans (same_upd hs), E1.there, fun b hb h0 => ?_, E1.keep, E1.kind, E1.oth⟩, .lst upd_same (hd.mono (same_upd hs)), q⟩
  rw [upd_ne (fun z => hb (by rw [z]; exact ha))]
  exact E1.stay b hb h0
def vT (t : VE) : VT := fun ρ Q => t ρ fun x ρ' => Q (.val x) ρ'
theorem JE.t {X : Cx} {e : Expr} {t : VE} (h : JE X e t) : JT X e (vT t) := by
  intro σ S H ρ Q hR ht
  refine (h σ S H ρ _ hR ht).mono fun v H1 q => ?_
  obtain ⟨S1, ρ1, x, R1, E1, d, q⟩ := q
  exact ⟨S1, ρ1, .val x, R1, E1, d, q⟩
theorem deref_slot {ρ : R} {i : Nat} {x : D} (e : deref ρ (.slot i) = some x) : (∃ xs, ρ[i]? = some (.own xs) ∧ x = .list xs) ∨ ∃ k xs, ρ[i]? = some (.ro k xs) ∧ x = .list xs := by
  have e : (match ρ[i]? with
    | some (.own xs) => some (.list xs)
    | some (.ro _ xs) => some (.list xs)
    | _ => none) = some x := e
  split at e
  · cases e
    exact .inl ⟨_, by assumption, rfl⟩
  · cases e
    exact .inr ⟨_, _, by assumption, rfl⟩
  · cases e
/-- what an operand reads -/
theorem ARep.list {K : PySem.W.Frag} {B : Nat} {S H : Hp} {σ : L2.St} {ρ : R} (h : Rel K B S H σ ρ) {v : V} {a : AV} {xs : List D} (r : ARep K S σ v a) (e : deref ρ a = some (.list xs)) : ∃ p vs, v = .ref p ∧ SqL K H p vs ∧ RpAll S vs xs := by
  cases a with
  | val x =>
    cases e
    cases r with
    | lst hs ha => exact ⟨_, _, rfl, .of (h.sub _ _ hs), ha⟩
  | slot i =>
    have r : σ[i]? = some (some v) := r
    rcases deref_slot e with ⟨ys, he, q⟩ | ⟨k, ys, he, q⟩
    · cases q
      obtain ⟨a, vs, b1, b2, b3, b4⟩ := h.own i _ he
      rw [r] at b1
      cases b1
      exact ⟨a, vs, rfl, .inl (.inl b3), b4⟩
    · cases q
      obtain ⟨a, vs, b1, b2, b3⟩ := h.ro i _ _ he
      rw [r] at b1
      cases b1
      exact ⟨a, vs, rfl, b2.seq, b3⟩
theorem ARep.dp {K : PySem.W.Frag} {B : Nat} {S H : Hp} {σ : L2.St} {ρ : R} (h : Rel K B S H σ ρ) {v : V} {a : AV} {x : D} (r : ARep K S σ v a) (e : deref ρ a = some x) : Dp K H v x := by
  cases a with
  | val x =>
    cases e
    exact (Rp.mono r h.sub).dp
  | slot i =>
    have e0 := e
    rcases deref_slot e with ⟨ys, he, q⟩ | ⟨k, ys, he, q⟩
    · subst q
      obtain ⟨p, vs, rfl, hs, ha⟩ := ARep.list h r e0
      exact .lst hs (ha.mono h.sub).dp
    · subst q
      obtain ⟨p, vs, rfl, hs, ha⟩ := ARep.list h r e0
      exact .lst hs (ha.mono h.sub).dp
/-- the same for an operand that stands in the heap by itself -/
def strict (ρ : R) : AV → Bool
  | .val _ => true
  | .slot i => match ρ[i]? with
    | some (.own _) => true
    | some (.ro k _) => k
    | _ => false
theorem ARep.listS {K : PySem.W.Frag} {B : Nat} {S H : Hp} {σ : L2.St} {ρ : R} (h : Rel K B S H σ ρ) {v : V} {a : AV} {xs : List D} (r : ARep K S σ v a) (e : deref ρ a = some (.list xs)) (st : strict ρ a = true) : ∃ p vs, v = .ref p ∧ H p = some (.lst vs) ∧ RpAll S vs xs := by
  cases a with
  | val x =>
    cases e
    cases r with
    | lst hs ha => exact ⟨_, _, rfl, h.sub _ _ hs, ha⟩
  | slot i =>
    have r : σ[i]? = some (some v) := r
    rcases deref_slot e with ⟨ys, he, q⟩ | ⟨k, ys, he, q⟩
    · cases q
      obtain ⟨a, vs, b1, b2, b3, b4⟩ := h.own i _ he
      rw [r] at b1
      cases b1
      exact ⟨a, vs, rfl, b3, b4⟩
    · cases q
      obtain ⟨a, vs, b1, b2, b3⟩ := h.ro i _ _ he
      rw [r] at b1
      cases b1
      have st : (match ρ[i]? with
        | some (.own _) => true
        | some (.ro k _) => k
        | _ => false) = true := st
      rw [he] at st
      have st : k = true := st
      subst st
      exact ⟨a, vs, rfl, b2.lst, b3⟩
/-- what is no list is a value -/
theorem ARep.flat {K : PySem.W.Frag} {S : Hp} {σ : L2.St} {ρ : R} {v : V} {a : AV} {x : D} (r : ARep K S σ v a) (e : deref ρ a = some x) (hx : ∀ xs, x ≠ .list xs) : Rp S v x := by
  cases a with
  | val y =>
    cases e
    exact r
  | slot i =>
    rcases deref_slot e with ⟨ys, he, q⟩ | ⟨k, ys, he, q⟩
    · exact absurd q (hx _)
    · exact absurd q (hx _)
end WA

/-! WA2: one rule a construct, over slots. -/
namespace WA
open PySem PySem.Spec PyProof.Rows L2

/-! ### the best readings of the layer's parts -/
section
variable {X : Cx}
def WO (X : Cx) (f : Value → Value → Sem Value) : R2 := fun x y H Q => ∀ (pins : List (Addr × Obj)) (s : Shared) (σ : L2.St) (v u : Value), Inv X pins σ H s → RelV x v → RelV y u → wpAny (model X.prog X.w) X.A (f v u) (EP X pins σ Q) X.xe s
theorem opW {f : Value → Value → Sem Value} : OpR X f (WO X f) := fun pins s σ H x y v u Q I r1 r2 h => h pins s σ v u I r1 r2
theorem WO.of {f : Value → Value → Sem Value} {r : R2} {x y : V} {H : Hp} {Q : VK} (h : OpR X f r) (q : r x y H Q) : WO X f x y H Q := fun pins s σ v u I r1 r2 => h pins s σ H x y v u Q I r1 r2 q
def WCl (X : Cx) (f : Value) : List V → Hp → VK → Prop := fun xs H Q => ∀ (pins : List (Addr × Obj)) (s : Shared) (σ : L2.St) (us : List Value), Inv X pins σ H s → Vals xs us → wpAny (model X.prog X.w) X.A (call f us) (EP X pins σ Q) X.xe s
theorem clW {f : Value} : CallR X f (WCl X f) := fun pins s σ H xs us Q I r h => h pins s σ us I r
theorem WCl.of {f : Value} {r : List V → Hp → VK → Prop} {xs : List V} {H : Hp} {Q : VK} (h : CallR X f r) (q : r xs H Q) : WCl X f xs H Q := fun pins s σ us I r => h pins s σ H xs us Q I r q
def WU (X : Cx) (f : Value → Sem Value) : V → Hp → VK → Prop := fun x H Q => ∀ (pins : List (Addr × Obj)) (s : Shared) (σ : L2.St) (v : Value), Inv X pins σ H s → RelV x v → wpAny (model X.prog X.w) X.A (f v) (EP X pins σ Q) X.xe s
theorem unW {f : Value → Sem Value} : UnR X f (WU X f) := fun pins s σ H x v Q I r h => h pins s σ v I r
theorem WU.of {f : Value → Sem Value} {r : V → Hp → VK → Prop} {x : V} {H : Hp} {Q : VK} (h : UnR X f r) (q : r x H Q) : WU X f x H Q := fun pins s σ v I r1 => h pins s σ H x v Q I r1 q
def WM (X : Cx) (id : String) : V → List V → Hp → VK → Prop := fun x xs H Q => ∀ (pins : List (Addr × Obj)) (s : Shared) (σ : L2.St) (v : Value) (us : List Value), Inv X pins σ H s → RelV x v → Vals xs us → wpAny (model X.prog X.w) X.A (call (.builtin id) (v :: us)) (EP X pins σ Q) X.xe s
theorem mtW {id : String} : MtR X id (WM X id) := fun pins s σ H x xs v us Q I r1 r2 h => h pins s σ v us I r1 r2
theorem WM.of {id : String} {r : V → List V → Hp → VK → Prop} {x : V} {xs : List V} {H : Hp} {Q : VK} (h : MtR X id r) (q : r x xs H Q) : WM X id x xs H Q := fun pins s σ v us I r1 r2 => h pins s σ H x xs v us Q I r1 r2 q
end

section
variable {K : PySem.W.Frag} {S H : Hp} {σ : L2.St} {ρ : R} {v : V} {a : AV}
theorem ARep.int {i : Int} (r : ARep K S σ v a) (e : deref ρ a = some (.int i)) : v = .int i := by
  cases r.flat e (fun _ z => by cases z); rfl
theorem ARep.str {i : Str} (r : ARep K S σ v a) (e : deref ρ a = some (.str i)) : v = .str i := by
  cases r.flat e (fun _ z => by cases z); rfl
theorem ARep.bl {i : Bool} (r : ARep K S σ v a) (e : deref ρ a = some (.bool i)) : v = .bl i := by
  cases r.flat e (fun _ z => by cases z); rfl
theorem ARep.non (r : ARep K S σ v a) (e : deref ρ a = some .none) : v = .non := by
  cases r.flat e (fun _ z => by cases z); rfl
theorem ARep.tup {xs : List D} (r : ARep K S σ v a) (e : deref ρ a = some (.tuple xs)) : ∃ p vs, v = .ref p ∧ S p = some (.tup vs) ∧ RpAll S vs xs := by
  cases r.flat e (fun _ z => by cases z) with
  | tup h1 h2 => exact ⟨_, _, rfl, h1, h2⟩
end

/-! ### names and constants -/
section
variable {X : Cx} {pos : Pos}
def tvar (i : Nat) : VT := fun ρ Q => match ρ[i]? with
  | some (.v x) => Q (.val x) ρ
  | some (.own _) => Q (.slot i) ρ
  | some (.ro _ _) => Q (.slot i) ρ
  | _ => False
theorem jt_var {i : Nat} {x : Str} (hN : X.N[i]? = some x) (hv : Vis X.env.scope x) (hd : (x == ("__debug__" : Str)) = false) (hcd : (x == ("__classdict__" : Str)) = false) : JT X (.Name x pos) (tvar i) := by
  intro σ S H ρ Q hR ht
  refine W.of (pe_var hN hv hd hcd) ?_
  have ht : (match ρ[i]? with
    | some (.v x) => Q (.val x) ρ
    | some (.own _) => Q (.slot i) ρ
    | some (.ro _ _) => Q (.slot i) ρ
    | _ => False) := ht
  split at ht
  · rename_i x he
    obtain ⟨w, h1, h2⟩ := hR.val i x he
    exact ⟨w, h1, S, ρ, .val x, hR, .refl, h2, ht⟩
  · rename_i xs he
    obtain ⟨a, vs, h1, _⟩ := hR.own i xs he
    exact ⟨_, h1, S, ρ, .slot i, hR, .refl, h1, ht⟩
  · rename_i k xs he
    obtain ⟨a, vs, h1, _⟩ := hR.ro i k xs he
    exact ⟨_, h1, S, ρ, .slot i, hR, .refl, h1, ht⟩
  · exact ht.elim
def tcon (d : D) : VE := fun ρ Q => Q d ρ
theorem je_int {i j} : JE X (.Constant (.int i) j pos) (tcon (.int i)) := fun σ S H ρ Q hR ht => W.of pe_int ⟨S, ρ, _, hR, .refl, .int i, ht⟩
theorem je_str {i j} : JE X (.Constant (.str i) j pos) (tcon (.str i)) := fun σ S H ρ Q hR ht => W.of pe_str ⟨S, ρ, _, hR, .refl, .str i, ht⟩
theorem je_bl {i j} : JE X (.Constant (.bool i) j pos) (tcon (.bool i)) := fun σ S H ρ Q hR ht => W.of pe_bl ⟨S, ρ, _, hR, .refl, .bl i, ht⟩
theorem je_non {j} : JE X (.Constant .none j pos) (tcon .none) := fun σ S H ρ Q hR ht => W.of pe_non ⟨S, ρ, _, hR, .refl, .non, ht⟩
end

/-! ### whole numbers, texts: + - * // % ** -/
inductive BOp where
  | add | sub | mul | fdiv | mod | pow | modn
def BOp.op : BOp → Operator
  | .add => .Add
  | .sub => .Sub
  | .mul => .Mult
  | .fdiv => .FloorDiv
  | .mod => .Mod
  | .pow => .Pow
  | .modn => .Mod
def MulOk (i j : Int) : Prop := CMul i j ∨ CMulW i j
def vBinI : BOp → Int → Int → (D → Prop) → Prop
  | .add, i, j, Q => Q (.int (i + j))
  | .sub, i, j, Q => Q (.int (i - j))
  | .mul, i, j, Q => MulOk i j ∧ Q (.int (i * j))
  | .fdiv, i, j, Q => CDivW i j ∧ Q (.int (i / j))
  | .mod, i, j, Q => 0 < j ∧ Q (.int (i % j))
  | .modn, i, j, Q => j ≠ 0 ∧ Q (.int (i.fmod j))
  | .pow, i, j, Q => CPow i j ∧ Q (.int (i ^ j.toNat))
def repS (s : Str) (n : Nat) : Str := Txt.join Str.empty (List.replicate n s)
def vBin (op : BOp) (x y : Option D) (Q : D → Prop) : Prop :=
  match op, x, y with
  | op, some (.int i), some (.int j) => vBinI op i j Q
  | .add, some (.str i), some (.str j) => i.length + j.length ≤ sizeLine ∧ Q (.str (i ++ j))
  | _, _, _ => False
section
variable {X : Cx} {pos : Pos} {a b : Expr} {ta tb : VT}
def tBin (op : BOp) (ta tb : VT) : VE := fun ρ Q => ta ρ fun u ρ1 => tb ρ1 fun w ρ2 => vBin op (deref ρ2 u) (deref ρ2 w) fun r => Q r ρ2
/-- two operands, one after the other -/
theorem two {σ : L2.St} {S H : Hp} {ρ : R} {f : AV → AV → R → Prop} {Q : V → V → Hp → Prop} (hR : Rel X.K (bd X) S H σ ρ) (ha : JT X a ta) (hb : JT X b tb) (ht : ta ρ fun u ρ1 => tb ρ1 fun w ρ2 => f u w ρ2)
    (h : ∀ v w H2 S2 ρ2 u z, Rel X.K (bd X) S2 H2 σ ρ2 → Ext σ S H ρ S2 H2 ρ2 → ARep X.K S2 σ v u → ARep X.K S2 σ w z → f u z ρ2 → Q v w H2) : W X a σ H fun v H1 => W X b σ H1 fun w H2 => Q v w H2 := by
  refine (ha σ S H ρ _ hR ht).mono fun v H1 q => ?_
  obtain ⟨S1, ρ1, u, R1, E1, d1, q1⟩ := q
  refine (hb σ S1 H1 ρ1 _ R1 q1).mono fun w H2 q => ?_
  obtain ⟨S2, ρ2, z, R2, E2, d2, q2⟩ := q
  exact h v w H2 S2 ρ2 u z R2 (E1.trans E2) (d1.mono E2.same) d2 q2
theorem bin_int {op : BOp} {i j : Int} {H : Hp} {Q : VK} {P : D → Prop} (h : vBinI op i j P) (hq : ∀ k : Int, P (.int k) → Q (.int k) H) : WO X (binaryOp op.op) (.int i) (.int j) H Q := by
  cases op with
  | add => exact WO.of op_add ⟨i, j, rfl, rfl, hq _ h⟩
  | sub => exact WO.of op_sub ⟨i, j, rfl, rfl, hq _ h⟩
  | mul =>
    obtain ⟨h1 | h1, h⟩ := h
    · exact WO.of op_mul ⟨i, j, rfl, rfl, h1, hq _ h⟩
    · exact WO.of op_mulW ⟨i, j, rfl, rfl, h1, hq _ h⟩
  | fdiv => exact WO.of op_fdivW ⟨i, j, rfl, rfl, h.1, hq _ h.2⟩
  | mod => exact WO.of op_mod ⟨i, j, rfl, rfl, h.1, hq _ h.2⟩
  | modn => exact WO.of op_modN ⟨i, j, rfl, rfl, h.1, hq _ h.2⟩
  | pow => exact WO.of op_pow ⟨i, j, rfl, rfl, h.1, hq _ h.2⟩
theorem je_bin {op : BOp} (ha : JT X a ta) (hb : JT X b tb) : JE X (.BinOp a op.op b pos) (tBin op ta tb) := by
  intro σ S H ρ Q hR ht
  refine W.of (pe_op opW peW peW) (two hR ha hb ht fun v w H2 S2 ρ2 u z R2 E d1 d2 q => ?_)
  unfold vBin at q
  split at q
  · rename_i op i j e1 e2
    rw [d1.int e1, d2.int e2]
    exact bin_int q fun k hk => ⟨S2, ρ2, _, R2, E, .int k, hk⟩
  · rename_i i j e1 e2
    rw [d1.str e1, d2.str e2]
    exact WO.of op_add_str ⟨i, j, rfl, rfl, q.1, S2, ρ2, _, R2, E, .str _, q.2⟩
  · exact q.elim
def tNeg (ta : VT) : VE := fun ρ Q => ta ρ fun u ρ1 => match deref ρ1 u with
  | some (.int i) => Q (.int (-i)) ρ1
  | _ => False
theorem je_neg (ha : JT X a ta) : JE X (.UnaryOp .USub a pos) (tNeg ta) := by
  intro σ S H ρ Q hR ht
  refine W.of (pe_un unW peW) ((ha σ S H ρ _ hR ht).mono fun v H1 q => ?_)
  obtain ⟨S1, ρ1, u, R1, E1, d1, q1⟩ := q
  split at q1
  · rename_i i e
    rw [d1.int e]
    exact WU.of un_neg ⟨i, rfl, S1, ρ1, _, R1, E1, .int _, q1⟩
  · exact q1.elim
/-! ### lists: + and * -/
def tCat (ta tb : VT) : VE := fun ρ Q => ta ρ fun u ρ1 => tb ρ1 fun w ρ2 => match deref ρ2 u, deref ρ2 w with
  | some (.list xs), some (.list ys) => strict ρ2 u = true ∧ strict ρ2 w = true ∧ xs.length + ys.length ≤ sizeLine ∧ Q (.list (xs ++ ys)) ρ2
  | _, _ => False
theorem jn_cat (ha : JT X a ta) (hb : JT X b tb) : JN X (.BinOp a .Add b pos) (tCat ta tb) := by
  intro σ S H ρ Q hR ht
  refine W.of (pe_op opW peW peW) (two hR ha hb ht fun v w H2 S2 ρ2 u z R2 E d1 d2 q => ?_)
  split at q
  · rename_i xs ys e1 e2
    obtain ⟨s1, s2, hz, q⟩ := q
    obtain ⟨p, vs, rfl, h1, g1⟩ := d1.listS R2 e1 s1
    obtain ⟨p', ws, rfl, h2, g2⟩ := d2.listS R2 e2 s2
    refine WO.of op_cat ⟨p, p', vs, ws, rfl, rfl, h1, h2, by rw [rps_len g1, rps_len g2]; exact hz, fun n hn => ?_⟩
    have hn0 : H n = none := by
      cases e : H n with
      | none => rfl
      | some o => exact absurd hn (E.there n (by rw [e]; simp))
    exact ⟨S2, ρ2, n, _, _, R2.new0 hn, E.trans (.new0 R2 hn), rfl, hn0, R2.sub.free hn, upd_same, rps_app g1 g2, q⟩
  · exact q.elim
theorem rps_rep {S : Hp} {vs : List V} {ds : List D} (h : RpAll S vs ds) : ∀ k : Nat, RpAll S (List.replicate k vs).flatten (List.replicate k ds).flatten
  | 0 => .nil
  | k + 1 => by
    rw [List.replicate_succ, List.replicate_succ, List.flatten_cons, List.flatten_cons]
    exact rps_app h (rps_rep h k)
def tRep (ta tb : VT) : VE := fun ρ Q => ta ρ fun u ρ1 => tb ρ1 fun w ρ2 => match deref ρ2 u, deref ρ2 w with
  | some (.list xs), some (.int k) => strict ρ2 u = true ∧ -(2 ^ 63) ≤ k ∧ k < 2 ^ 63 ∧ xs.length * k.toNat ≤ sizeLine ∧ Q (.list (List.replicate k.toNat xs).flatten) ρ2
  | _, _ => False
theorem E_none {σ : L2.St} {S H S2 H2 : Hp} {ρ ρ2 : R} (E : Ext σ S H ρ S2 H2 ρ2) {n : Addr} (hn : H2 n = none) : H n = none := by
  cases e : H n with
  | none => rfl
  | some o => exact absurd hn (E.there n (by rw [e]; simp))
theorem jn_rep (ha : JT X a ta) (hb : JT X b tb) : JN X (.BinOp a .Mult b pos) (tRep ta tb) := by
  intro σ S H ρ Q hR ht
  refine W.of (pe_op opW peW peW) (two hR ha hb ht fun v w H2 S2 ρ2 u z R2 E d1 d2 q => ?_)
  split at q
  · rename_i xs k e1 e2
    obtain ⟨s1, h1, h2, hz, q⟩ := q
    obtain ⟨p, vs, rfl, g0, g1⟩ := d1.listS R2 e1 s1
    rw [d2.int e2]
    refine WO.of op_rep ⟨p, k, vs, rfl, rfl, g0, h1, h2, by rw [rps_len g1]; exact hz, fun n hn => ?_⟩
    exact ⟨S2, ρ2, n, _, _, R2.new0 hn, E.trans (.new0 R2 hn), rfl, E_none E hn, R2.sub.free hn, upd_same, rps_rep g1 _, q⟩
  · exact q.elim
end
end WA

/-! WA3: comparisons, and, or, not. -/
namespace WA
open PySem PySem.Spec PyProof.Rows L2

inductive COp where
  | eq | ne | lt | le | gt | ge | isN | isnN | mem | nmem
def COp.op : COp → CmpOp
  | .eq => .Eq
  | .ne => .NotEq
  | .lt => .Lt
  | .le => .LtE
  | .gt => .Gt
  | .ge => .GtE
  | .isN => .Is
  | .isnN => .IsNot
  | .mem => .In
  | .nmem => .NotIn
def flatD : D → Bool
  | .none => true
  | .bool _ => true
  | .int _ => true
  | .str _ => true
  | _ => false
def isNoneD : D → Bool
  | .none => true
  | _ => false
def eqOk (x y : D) : Bool := (flatD x && flatD y) || (SeqAt.shaped x && SeqAt.shaped y)
def vEq (x y : D) (Q : Bool → Prop) : Prop := eqOk x y = true ∧ Q (PyData.eqv x y)
def inD (x : D) (ys : List D) : Bool := ys.any fun y => PyData.eqv y x
def vMem (x y : D) (Q : Bool → Prop) : Prop := match x, y with
  | .str a, .str b => ∃ c, a = ⟨#[c]⟩ ∧ Q (decide (c ∈ b.cps.toList))
  | x, .list ys => flatD x = true ∧ ys.all flatD = true ∧ Q (inD x ys)
  | x, .tuple ys => flatD x = true ∧ ys.all flatD = true ∧ Q (inD x ys)
  | _, _ => False
def vCmp (op : COp) (x y : Option D) (Q : Bool → Prop) : Prop := match op, x, y with
  | .eq, some x, some y => vEq x y Q
  | .ne, some x, some y => vEq x y fun b => Q (!b)
  | .lt, some (.int i), some (.int j) => Q (decide (i < j))
  | .le, some (.int i), some (.int j) => Q (decide (i ≤ j))
  | .gt, some (.int i), some (.int j) => Q (decide (j < i))
  | .ge, some (.int i), some (.int j) => Q (decide (j ≤ i))
  | .isN, some x, some .none => Q (isNoneD x)
  | .isnN, some x, some .none => Q (!isNoneD x)
  | .mem, some x, some y => vMem x y Q
  | .nmem, some x, some y => vMem x y fun b => Q (!b)
  | _, _, _ => False
section
variable {S : Hp}
theorem rp_flatV {v : V} {d : D} (h : Rp S v d) (f : flatD d = true) : flatV v = true := by
  cases h <;> first | rfl | cases f
theorem rps_flatV : ∀ {vs : List V} {ds : List D}, RpAll S vs ds → ds.all flatD = true → vs.all flatV = true
  | _, _, .nil, _ => rfl
  | _, _, .cons a t, f => by
    rw [List.all_cons, Bool.and_eq_true] at f ⊢
    exact ⟨rp_flatV a f.1, rps_flatV t f.2⟩
theorem rp_eqV {v w : V} {d e : D} (h : Rp S v d) (h' : Rp S w e) (f : flatD d = true) (f' : flatD e = true) : eqV v w = PyData.eqv d e := by
  cases h <;> first
    | (exact absurd f (by decide))
    | (cases f; done)
    | (cases h' <;> first | (cases f'; done) | rfl | (simp only [eqV, PyData.eqv]))
theorem rps_inV {x : V} {d : D} (hx : Rp S x d) (f : flatD d = true) : ∀ {vs : List V} {ds : List D}, RpAll S vs ds → ds.all flatD = true → inV x vs = inD d ds
  | _, _, .nil, _ => rfl
  | _, _, .cons a t, g => by
    rw [List.all_cons, Bool.and_eq_true] at g
    have ih := rps_inV hx f t g.2
    unfold inV inD at ih ⊢
    rw [List.any_cons, List.any_cons, ih, rp_eqV a hx g.1 f]
theorem rp_scal {v w : V} {d e : D} (h : Rp S v d) (h' : Rp S w e) (f : flatD d = true) (f' : flatD e = true) : (scal v w = true ∧ decide (v = w) = PyData.eqv d e) ∨ (SeqAt.shaped d = true ∧ SeqAt.shaped e = true) := by
  cases h <;> first
    | (cases f; done)
    | (cases h' <;> first
        | (cases f'; done)
        | exact .inl ⟨rfl, dec_int⟩
        | exact .inl ⟨rfl, dec_bl⟩
        | exact .inl ⟨rfl, dec_str⟩
        | exact .inl ⟨rfl, by (simp only [PyData.eqv]; rfl)⟩
        | exact .inr ⟨by decide, by decide⟩
        | exact .inr ⟨rfl, rfl⟩)
end
section
variable {X : Cx} {pos : Pos} {a b : Expr} {ta tb : VT} {σ : L2.St} {S H : Hp} {ρ : R} {v w : V} {u z : AV}
theorem eq_core {x y : D} {Q : VK} {P : Bool → Prop} (hu : X.A.units + 64 < cLine) (R : Rel X.K (bd X) S H σ ρ) (d1 : ARep X.K S σ v u) (d2 : ARep X.K S σ w z) (e1 : deref ρ u = some x) (e2 : deref ρ z = some y) (h : vEq x y P) (hq : ∀ k, P k → Q (.bl k) H) :
    WO X (compareOp .Eq) v w H Q := by
  obtain ⟨ok, h⟩ := h
  have deep : SeqAt.shaped x = true ∧ SeqAt.shaped y = true → WO X (compareOp .Eq) v w H Q := fun q =>
    WO.of (op_eqD hu) ⟨x, y, d1.dp R e1, d2.dp R e2, q.1, q.2, hq _ h⟩
  rw [eqOk, Bool.or_eq_true, Bool.and_eq_true, Bool.and_eq_true] at ok
  rcases ok with ⟨f1, f2⟩ | q
  · have r1 := d1.flat e1 (fun _ z => by rw [z] at f1; cases f1)
    have r2 := d2.flat e2 (fun _ z => by rw [z] at f2; cases f2)
    rcases rp_scal r1 r2 f1 f2 with ⟨c1, c2⟩ | q
    · exact WO.of op_eq ⟨c1, by rw [c2]; exact hq _ h⟩
    · exact deep q
  · exact deep q
theorem ne_core {x y : D} {Q : VK} {P : Bool → Prop} (hu : X.A.units + 64 < cLine) (R : Rel X.K (bd X) S H σ ρ) (d1 : ARep X.K S σ v u) (d2 : ARep X.K S σ w z) (e1 : deref ρ u = some x) (e2 : deref ρ z = some y) (h : vEq x y fun k => P (!k)) (hq : ∀ k, P k → Q (.bl k) H) :
    WO X (compareOp .NotEq) v w H Q := by
  obtain ⟨ok, h⟩ := h
  have deep : SeqAt.shaped x = true ∧ SeqAt.shaped y = true → WO X (compareOp .NotEq) v w H Q := fun q =>
    WO.of (op_neD hu) ⟨x, y, d1.dp R e1, d2.dp R e2, q.1, q.2, hq _ h⟩
  rw [eqOk, Bool.or_eq_true, Bool.and_eq_true, Bool.and_eq_true] at ok
  rcases ok with ⟨f1, f2⟩ | q
  · have r1 := d1.flat e1 (fun _ z => by rw [z] at f1; cases f1)
    have r2 := d2.flat e2 (fun _ z => by rw [z] at f2; cases f2)
    rcases rp_scal r1 r2 f1 f2 with ⟨c1, c2⟩ | q
    · exact WO.of op_ne ⟨c1, by rw [c2]; exact hq _ h⟩
    · exact deep q
  · exact deep q
theorem isNone_V {K : PySem.W.Frag} {B : Nat} (R : Rel K B S H σ ρ) {x : D} (d : ARep K S σ v u) (e : deref ρ u = some x) : decide (v = .non) = isNoneD x := by
  cases d.dp R e <;> first | rfl | simp [isNoneD]
theorem mem_core {x y : D} {Q : VK} {P : Bool → Prop} {neg : Bool} (R : Rel X.K (bd X) S H σ ρ) (d1 : ARep X.K S σ v u) (d2 : ARep X.K S σ w z) (e1 : deref ρ u = some x) (e2 : deref ρ z = some y) (h : vMem x y fun k => P (if neg then !k else k)) (hq : ∀ k, P k → Q (.bl k) H) :
    WO X (compareOp (if neg then .NotIn else .In)) v w H Q := by
  unfold vMem at h
  split at h
  · rename_i a b
    obtain ⟨c, rfl, h⟩ := h
    rw [d1.str e1, d2.str e2]
    cases neg with
    | true => exact WO.of op_notIn_sign ⟨c, b, rfl, rfl, hq _ h⟩
    | false => exact WO.of op_in_sign ⟨c, b, rfl, rfl, hq _ h⟩
  · rename_i ys
    obtain ⟨f1, f2, h⟩ := h
    obtain ⟨p, vs, rfl, hs, ha⟩ := d2.list R e2
    have r1 := d1.flat e1 (fun _ z => by rw [z] at f1; cases f1)
    cases neg with
    | true => exact WO.of op_notIn_seq ⟨p, vs, rfl, .inl hs, rp_flatV r1 f1, rps_flatV ha f2, by rw [rps_inV r1 f1 ha f2]; exact hq _ h⟩
    | false => exact WO.of op_in_seq ⟨p, vs, rfl, .inl hs, rp_flatV r1 f1, rps_flatV ha f2, by rw [rps_inV r1 f1 ha f2]; exact hq _ h⟩
  · rename_i ys
    obtain ⟨f1, f2, h⟩ := h
    obtain ⟨p, vs, rfl, hs, ha⟩ := d2.tup e2
    have r1 := d1.flat e1 (fun _ z => by rw [z] at f1; cases f1)
    cases neg with
    | true => exact WO.of op_notIn_seq ⟨p, vs, rfl, .inr (.of (R.sub _ _ hs)), rp_flatV r1 f1, rps_flatV ha f2, by rw [rps_inV r1 f1 ha f2]; exact hq _ h⟩
    | false => exact WO.of op_in_seq ⟨p, vs, rfl, .inr (.of (R.sub _ _ hs)), rp_flatV r1 f1, rps_flatV ha f2, by rw [rps_inV r1 f1 ha f2]; exact hq _ h⟩
  · exact h.elim
theorem cmp_core {op : COp} {Q : VK} {P : Bool → Prop} (hu : X.A.units + 64 < cLine) (R : Rel X.K (bd X) S H σ ρ) (d1 : ARep X.K S σ v u) (d2 : ARep X.K S σ w z) (h : vCmp op (deref ρ u) (deref ρ z) P) (hq : ∀ k, P k → Q (.bl k) H) : WO X (compareOp op.op) v w H Q := by
  unfold vCmp at h
  split at h
  · rename_i x y e1 e2
    exact eq_core hu R d1 d2 e1 e2 h hq
  · rename_i x y e1 e2
    exact ne_core hu R d1 d2 e1 e2 h hq
  · rename_i i j e1 e2
    rw [d1.int e1, d2.int e2]
    exact WO.of op_lt ⟨i, j, rfl, rfl, hq _ h⟩
  · rename_i i j e1 e2
    rw [d1.int e1, d2.int e2]
    exact WO.of op_le ⟨i, j, rfl, rfl, hq _ h⟩
  · rename_i i j e1 e2
    rw [d1.int e1, d2.int e2]
    exact WO.of op_gt ⟨i, j, rfl, rfl, hq _ h⟩
  · rename_i i j e1 e2
    rw [d1.int e1, d2.int e2]
    exact WO.of op_ge ⟨i, j, rfl, rfl, hq _ h⟩
  · rename_i x e1 e2
    rw [d2.non e2]
    exact WO.of op_isN ⟨rfl, by rw [isNone_V R d1 e1]; exact hq _ h⟩
  · rename_i x e1 e2
    rw [d2.non e2]
    exact WO.of op_notN ⟨rfl, by rw [isNone_V R d1 e1]; exact hq _ h⟩
  · rename_i x y e1 e2
    exact mem_core (neg := false) R d1 d2 e1 e2 h hq
  · rename_i x y e1 e2
    exact mem_core (neg := true) R d1 d2 e1 e2 h hq
  · exact h.elim
def tCmp (op : COp) (ta tb : VT) : VE := fun ρ Q => ta ρ fun u ρ1 => tb ρ1 fun w ρ2 => vCmp op (deref ρ2 u) (deref ρ2 w) fun r => Q (.bool r) ρ2
theorem je_cmp {op : COp} (hu : X.A.units + 64 < cLine) (ha : JT X a ta) (hb : JT X b tb) (hm : behindInMarks op.op b = false) : JE X (.Compare a [op.op] [b] pos) (tCmp op ta tb) := by
  intro σ S H ρ Q hR ht
  refine W.of (pe_cmpR opW peW peW hm) (two hR ha hb ht fun v w H2 S2 ρ2 u z R2 E d1 d2 q => ?_)
  exact cmp_core hu R2 d1 d2 q fun k hk => ⟨S2, ρ2, _, R2, E, .bl k, hk⟩
/-- a test whose value is a bool -/
def asC (t : VE) : VC := fun ρ Q => t ρ fun x ρ' => match x with
  | .bool b => Q b ρ'
  | _ => False
def cOf (t : VT) : VC := fun ρ Q => t ρ fun x ρ' => match x with
  | .val (.bool b) => Q b ρ'
  | _ => False
theorem jc_cmp {op : COp} (hu : X.A.units + 64 < cLine) (ha : JT X a ta) (hb : JT X b tb) (hm : behindInMarks op.op b = false) : JC X (.Compare a [op.op] [b] pos) (cOf (vT (tCmp op ta tb))) := by
  intro σ S H ρ Q hR ht
  refine WT.of (pt_cmpR opW peW peW hm) (two hR ha hb ht fun v w H2 S2 ρ2 u z R2 E d1 d2 q => ?_)
  exact cmp_core hu R2 d1 d2 q fun k hk => ⟨k, rfl, S2, ρ2, R2, E, hk⟩
/-- any expression that is no not, and, or, comparison, if-else -/
theorem jc_val (ha : JT X a ta) (he : ∀ whole, isTrue a X.env whole = (do let v ← whole; standAt a.pos; holding [v] (truthy v))) : JC X a (cOf ta) := by
  intro σ S H ρ Q hR ht
  refine WT.of (pt_val peW he) ((ha σ S H ρ _ hR ht).mono fun v H1 q => ?_)
  obtain ⟨S1, ρ1, u, R1, E1, d1, q1⟩ := q
  split at q1
  · rename_i b
    have hv : v = .bl b := by
      have d1 : Rp S1 v (.bool b) := d1
      cases d1; rfl
    exact ⟨b, hv, S1, ρ1, R1, E1, q1⟩
  · exact q1.elim
/-! ### not, and, or -/
def tNt (ta : VT) : VE := fun ρ Q => ta ρ fun u ρ1 => match u with
  | .val (.bool b) => Q (.bool (!b)) ρ1
  | _ => False
theorem je_not (ha : JT X a ta) : JE X (.UnaryOp .Not a pos) (tNt ta) := by
  intro σ S H ρ Q hR ht
  refine W.of (pe_not peW) ((ha σ S H ρ _ hR ht).mono fun v H1 q => ?_)
  obtain ⟨S1, ρ1, u, R1, E1, d1, q1⟩ := q
  split at q1
  · rename_i b
    have hv : v = .bl b := by
      have d1 : Rp S1 v (.bool b) := d1
      cases d1; rfl
    exact ⟨b, hv, S1, ρ1, _, R1, E1, .bl _, q1⟩
  · exact q1.elim
theorem jc_not (ha : JC X a (cOf ta)) : JC X (.UnaryOp .Not a pos) (cOf (vT (tNt ta))) := by
  intro σ S H ρ Q hR ht
  refine WT.of (pt_not ptW) ?_
  have ht' : cOf ta ρ fun b ρ' => Q (!b) ρ' := by
    have e : cOf (vT (tNt ta)) ρ Q = ta ρ (fun u ρ1 => match u with
      | .val (.bool b) => Q (!b) ρ1
      | _ => False) := by
      unfold cOf vT tNt
      refine congrArg (ta ρ) ?_
      funext u ρ1
      cases u with
      | val x => cases x <;> rfl
      | slot i => rfl
    rw [e] at ht
    exact ht
  refine (ha σ S H ρ _ hR ht').mono fun b H1 q => ?_
  obtain ⟨S1, ρ1, R1, E1, q1⟩ := q
  exact ⟨S1, ρ1, R1, E1, q1⟩
def tAnd2 (ta tb : VT) : VT := fun ρ Q => ta ρ fun u ρ1 => match u with
  | .val (.bool b) => (b = true → tb ρ1 Q) ∧ (b = false → Q (.val (.bool false)) ρ1)
  | _ => False
def tOr2 (ta tb : VT) : VT := fun ρ Q => ta ρ fun u ρ1 => match u with
  | .val (.bool b) => (b = true → Q (.val (.bool true)) ρ1) ∧ (b = false → tb ρ1 Q)
  | _ => False
theorem PostT.trans {S1 H1 : Hp} {ρ1 : R} {Q : AV → R → Prop} (E1 : Ext σ S H ρ S1 H1 ρ1) {v : V} {H2 : Hp} (h : PostT X σ S1 H1 ρ1 Q v H2) : PostT X σ S H ρ Q v H2 := by
  obtain ⟨S2, ρ2, x, R2, E2, d, q⟩ := h
  exact ⟨S2, ρ2, x, R2, E1.trans E2, d, q⟩
theorem PostC.trans {S1 H1 : Hp} {ρ1 : R} {Q : Bool → R → Prop} (E1 : Ext σ S H ρ S1 H1 ρ1) {v : Bool} {H2 : Hp} (h : PostC X σ S1 H1 ρ1 Q v H2) : PostC X σ S H ρ Q v H2 := by
  obtain ⟨S2, ρ2, R2, E2, q⟩ := h
  exact ⟨S2, ρ2, R2, E1.trans E2, q⟩
theorem jt_one {op : BoolOp} (ha : JT X a ta) : JT X (.BoolOp op [a] pos) ta := fun σ S H ρ Q hR ht => W.of (pe_one peW) (ha σ S H ρ Q hR ht)
theorem jt_and {rest : List Expr} (ha : JT X a ta) (hb : JT X (.BoolOp .And (b :: rest) pos) tb) : JT X (.BoolOp .And (a :: b :: rest) pos) (tAnd2 ta tb) := by
  intro σ S H ρ Q hR ht
  refine W.of (pe_and peW peW) ((ha σ S H ρ _ hR ht).mono fun v H1 q => ?_)
  obtain ⟨S1, ρ1, u, R1, E1, d1, q1⟩ := q
  split at q1
  · rename_i b
    have hv : v = .bl b := by
      have d1 : Rp S1 v (.bool b) := d1
      cases d1; rfl
    refine ⟨b, hv, ?_⟩
    cases b with
    | true => exact ((hb σ S1 H1 ρ1 _ R1 (q1.1 rfl)).mono fun _ _ h => h.trans E1)
    | false => exact ⟨S1, ρ1, .val _, R1, E1, Rp.bl _, q1.2 rfl⟩
  · exact q1.elim
theorem jt_or {rest : List Expr} (ha : JT X a ta) (hb : JT X (.BoolOp .Or (b :: rest) pos) tb) : JT X (.BoolOp .Or (a :: b :: rest) pos) (tOr2 ta tb) := by
  intro σ S H ρ Q hR ht
  refine W.of (pe_or peW peW) ((ha σ S H ρ _ hR ht).mono fun v H1 q => ?_)
  obtain ⟨S1, ρ1, u, R1, E1, d1, q1⟩ := q
  split at q1
  · rename_i b
    have hv : v = .bl b := by
      have d1 : Rp S1 v (.bool b) := d1
      cases d1; rfl
    refine ⟨b, hv, ?_⟩
    cases b with
    | false => exact ((hb σ S1 H1 ρ1 _ R1 (q1.2 rfl)).mono fun _ _ h => h.trans E1)
    | true => exact ⟨S1, ρ1, .val _, R1, E1, Rp.bl _, q1.1 rfl⟩
  · exact q1.elim
/-- tests of and, or: whatever their whole is -/
def WW (X : Cx) (e : Expr) : TT := fun σ H Q => ∀ (whole : Sem Value) (pins : List (Addr × Obj)) (s : Shared), Inv X pins σ H s → wpAny (model X.prog X.w) X.A (isTrue e X.env whole) (TP X pins σ Q) X.xe s
theorem pwW {e : Expr} : PW X e (WW X e) := ⟨fun whole pins s _ _ _ I h => h whole pins s I⟩
theorem WW.of {e : Expr} {t : TT} {Q : Bool → Hp → Prop} (h : PW X e t) (ht : t σ H Q) : WW X e σ H Q := fun whole pins s I => h.run whole pins s σ H Q I ht
theorem WW.mono {e : Expr} {Q Q' : Bool → Hp → Prop} (h : WW X e σ H Q) (hq : ∀ v H', Q v H' → Q' v H') : WW X e σ H Q' := fun whole pins s I =>
  thn (h whole pins s I) fun _ _ ⟨H', I', q⟩ => ⟨H', I', hq _ H' q⟩
def JW (X : Cx) (e : Expr) (t : VC) : Prop := ∀ σ S H ρ Q, Rel X.K (bd X) S H σ ρ → t ρ Q → WW X e σ H (PostC X σ S H ρ Q)
theorem JW.c {e : Expr} {t : VC} (h : JW X e t) : JC X e t := fun σ S H ρ Q hR ht => WT.of (PW.pt pwW) (h σ S H ρ Q hR ht)
theorem jw_and1 (ha : JC X a (cOf ta)) : JW X (.BoolOp .And [a] pos) (cOf ta) := fun σ S H ρ Q hR ht => WW.of (pw_and1 ptW) (ha σ S H ρ Q hR ht)
theorem jw_or1 (ha : JC X a (cOf ta)) : JW X (.BoolOp .Or [a] pos) (cOf ta) := fun σ S H ρ Q hR ht => WW.of (pw_or1 ptW) (ha σ S H ρ Q hR ht)
theorem cOf_and {ρ : R} {Q : Bool → R → Prop} : cOf (tAnd2 ta tb) ρ Q = cOf ta ρ fun b ρ1 => (b = true → cOf tb ρ1 Q) ∧ (b = false → Q false ρ1) := by
  unfold cOf tAnd2
  refine congrArg (ta ρ) ?_
  funext u ρ1
  cases u with
  | val x => cases x <;> rfl
  | slot i => rfl
theorem cOf_or {ρ : R} {Q : Bool → R → Prop} : cOf (tOr2 ta tb) ρ Q = cOf ta ρ fun b ρ1 => (b = true → Q true ρ1) ∧ (b = false → cOf tb ρ1 Q) := by
  unfold cOf tOr2
  refine congrArg (ta ρ) ?_
  funext u ρ1
  cases u with
  | val x => cases x <;> rfl
  | slot i => rfl
theorem jw_and {rest : List Expr} (ha : JC X a (cOf ta)) (hb : JW X (.BoolOp .And (b :: rest) pos) (cOf tb)) : JW X (.BoolOp .And (a :: b :: rest) pos) (cOf (tAnd2 ta tb)) := by
  intro σ S H ρ Q hR ht
  rw [cOf_and] at ht
  refine WW.of (pw_and ptW pwW) ((ha σ S H ρ _ hR ht).mono fun c H1 q => ?_)
  obtain ⟨S1, ρ1, R1, E1, q1⟩ := q
  cases c with
  | true => exact ((hb σ S1 H1 ρ1 _ R1 (q1.1 rfl)).mono fun _ _ h => h.trans E1)
  | false => exact ⟨S1, ρ1, R1, E1, q1.2 rfl⟩
theorem jw_or {rest : List Expr} (ha : JC X a (cOf ta)) (hb : JW X (.BoolOp .Or (b :: rest) pos) (cOf tb)) : JW X (.BoolOp .Or (a :: b :: rest) pos) (cOf (tOr2 ta tb)) := by
  intro σ S H ρ Q hR ht
  rw [cOf_or] at ht
  refine WW.of (pw_or ptW pwW) ((ha σ S H ρ _ hR ht).mono fun c H1 q => ?_)
  obtain ⟨S1, ρ1, R1, E1, q1⟩ := q
  cases c with
  | false => exact ((hb σ S1 H1 ρ1 _ R1 (q1.2 rfl)).mono fun _ _ h => h.trans E1)
  | true => exact ⟨S1, ρ1, R1, E1, q1.1 rfl⟩
end
end WA

/-! WA4: arguments, built-ins, displays, items, slices, methods. -/
namespace WA
open PySem PySem.Spec PyProof.Rows L2

/-! ### the sorted list of texts -/
def leS (a b : Str) : Bool := !decide (b.cps.toList < a.cps.toList)
def srt (xs : List Str) : List Str := xs.mergeSort leS
theorem leS_iff {a b : Str} : leS a b = true ↔ a.cps.toList ≤ b.cps.toList := by
  unfold leS
  rw [Bool.not_eq_true', decide_eq_false_iff_not]
  exact Iff.rfl
theorem leS_trans (a b c : Str) (h1 : leS a b = true) (h2 : leS b c = true) : leS a c = true := leS_iff.mpr (List.le_trans (leS_iff.mp h1) (leS_iff.mp h2))
theorem leS_total (a b : Str) : (leS a b || leS b a) = true := by
  rw [Bool.or_eq_true, leS_iff, leS_iff]
  exact List.le_total _ _
theorem leS_anti {a b : Str} (h1 : leS a b = true) (h2 : leS b a = true) : a = b := by
  have e := List.le_antisymm (leS_iff.mp h1) (leS_iff.mp h2)
  cases a with
  | mk a =>
    cases b with
    | mk b => exact congrArg Str.mk (Array.toList_inj.mp e)
theorem rising_pw : ∀ (xs : List Str) (p : Str), risingS p xs = true → (∀ x ∈ xs, leS p x = true) ∧ xs.Pairwise fun a b => leS a b = true
  | [], _, _ => ⟨fun _ h => absurd h (by simp), .nil⟩
  | x :: r, p, h => by
    have h : (!ltCps x.cps.toList p.cps.toList && risingS x r) = true := h
    rw [Bool.and_eq_true] at h
    obtain ⟨h1, h2⟩ := h
    obtain ⟨a, b⟩ := rising_pw r x h2
    have e : leS p x = true := by
      unfold leS
      rw [← ltCps_eq]
      exact h1
    refine ⟨fun y hy => ?_, List.pairwise_cons.mpr ⟨a, b⟩⟩
    rcases List.mem_cons.mp hy with q | q
    · rw [q]
      exact e
    · exact leS_trans _ _ _ e (a y q)
theorem sortedS_pw {xs : List Str} (h : sortedS xs = true) : xs.Pairwise fun a b => leS a b = true := by
  cases xs with
  | nil => exact .nil
  | cons x r =>
    obtain ⟨a, b⟩ := rising_pw r x h
    exact List.pairwise_cons.mpr ⟨a, b⟩
theorem srt_pw (xs : List Str) : (srt xs).Pairwise fun a b => leS a b = true := List.pairwise_mergeSort leS_trans leS_total xs
theorem srt_perm (xs : List Str) : (srt xs).Perm xs := List.mergeSort_perm xs leS
theorem srt_of {xs ys : List Str} (hp : ys.Perm xs) (hs : ys.Pairwise fun a b => leS a b = true) : ys = srt xs :=
  List.Perm.eq_of_pairwise (le := fun a b => leS a b = true) (fun _ _ _ _ => leS_anti) hs (srt_pw xs) (hp.trans (srt_perm xs).symm)
theorem srt_len (xs : List Str) : (srt xs).length = xs.length := (srt_perm xs).length_eq
/-- sorted(xs), texts, any number of them -/
theorem cr_sortedT {X : Cx} : CallR X (.builtin "sorted") (fun vs H Q => ∃ (a : Addr) (xs : List Str), vs = [V.ref a] ∧ SqL X.K H a (xs.map V.str) ∧ ∀ p : Addr, H p = none → Q (.ref p) (upd H p (.lst ((srt xs).map V.str)))) := by
  intro pins s σ H vs us Q I r h
  obtain ⟨a, xs, rfl, hs, q⟩ := h
  obtain ⟨its, rv, hl, hz⟩ := I.list hs
  rw [Vals.ref1 r]
  refine PyProof.Rows.sorted_strsAny hl.isList rv.strs (by rw [← rv.length]; exact hz) fun out ss h1 h2 h3 => ?_
  have e := srt_of h2 (sortedS_pw h3)
  subst e
  obtain ⟨ep, he'⟩ := PyProof.Rows.sortedAll_at s.heap its out
  have hlen : ((srt xs).map V.str).length ≤ sizeLine := by
    rw [List.length_map, srt_len]
    rw [List.length_map] at hz
    exact hz
  exact ⟨.ref _, upd H (s.heap.objs.size + 1) (.lst ((srt xs).map V.str)), I.laid (t' := s.toks) (fun _ _ => PyProof.Rows.sortedAll_old) (Nat.le_succ _) ⟨hlen, out.toList, ep, vals_of_strs h1, by simpa using he'⟩, rfl, q _ (I.hok.fresh (Nat.le_succ _))⟩

/-! ### arguments -/
def notStar : Expr → Bool
  | .Starred _ _ => false
  | _ => true
theorem star_cons {e : Expr} {es : List Expr} {env : Env} (h : notStar e = true) : starEach (e :: es) env = (false, eval e env) :: starEach es env := by
  cases e <;> first | rfl | cases h
theorem star_none {pos : Pos} {env : Env} : ∀ {es : List Expr}, es.all notStar = true → (backTo pos (starEach es env)).any (·.1) = false
  | [], _ => rfl
  | e :: es, h => by
    rw [List.all_cons, Bool.and_eq_true] at h
    rw [star_cons h.1]
    show (false || (backTo pos (starEach es env)).any (·.1)) = false
    rw [star_none h.2]
    rfl
abbrev VA := R → (List AV → R → Prop) → Prop
def ARs (K : PySem.W.Frag) (S : Hp) (σ : L2.St) : List V → List AV → Prop := Paired fun v a => ARep K S σ v a
theorem ARs.mono {K : PySem.W.Frag} {S S' : Hp} {σ : L2.St} {vs : List V} {as : List AV} (h : ARs K S σ vs as) (e : Same S S') : ARs K S' σ vs as := Paired.mapP h fun _ _ r => ARep.mono r e
def PostA (X : Cx) (σ : L2.St) (S H : Hp) (ρ : R) (Q : List AV → R → Prop) : List V → Hp → Prop := fun vs H' => ∃ S' ρ' as, Rel X.K (bd X) S' H' σ ρ' ∧ Ext σ S H ρ S' H' ρ' ∧ ARs X.K S' σ vs as ∧ Q as ρ'
def WAr (X : Cx) (es : List Expr) : TA := fun σ H Q => ∀ (pos : Pos) (pins : List (Addr × Obj)) (s : Shared), Inv X pins σ H s → wpAny (model X.prog X.w) X.A (spliced (backTo pos (starEach es X.env))) (AP X pins σ Q) X.xe s
section
variable {X : Cx} {pos p : Pos} {e a b : Expr} {es : List Expr} {ta tb : VT} {σ : L2.St} {S H : Hp} {ρ : R}
theorem paW : PA X es (WAr X es) := ⟨fun pos pins s _ _ _ I h => h pos pins s I⟩
theorem WAr.of {t : TA} {Q : List V → Hp → Prop} (h : PA X es t) (ht : t σ H Q) : WAr X es σ H Q := fun pos pins s I => h.run pos pins s σ H Q I ht
theorem WAr.mono {Q Q' : List V → Hp → Prop} (h : WAr X es σ H Q) (hq : ∀ v H', Q v H' → Q' v H') : WAr X es σ H Q' := fun pos pins s I =>
  thn (h pos pins s I) fun _ _ ⟨vs, H', I', r, q⟩ => ⟨vs, H', I', r, hq _ H' q⟩
def JA (X : Cx) (es : List Expr) (t : VA) : Prop := ∀ σ S H ρ Q, Rel X.K (bd X) S H σ ρ → t ρ Q → WAr X es σ H (PostA X σ S H ρ Q)
def tANil : VA := fun ρ Q => Q [] ρ
def tACons (t : VT) (u : VA) : VA := fun ρ Q => t ρ fun x ρ1 => u ρ1 fun xs ρ2 => Q (x :: xs) ρ2
theorem ja_nil : JA X [] tANil := fun σ S H ρ Q hR ht => WAr.of pa_nil ⟨S, ρ, [], hR, .refl, .nil, ht⟩
theorem ja_cons {u : VA} (ha : JT X e ta) (hb : JA X es u) (hs : notStar e = true) : JA X (e :: es) (tACons ta u) := by
  intro σ S H ρ Q hR ht
  refine WAr.of (pa_cons peW paW (star_cons hs)) ((ha σ S H ρ _ hR ht).mono fun v H1 q => ?_)
  obtain ⟨S1, ρ1, x, R1, E1, d1, q1⟩ := q
  refine (hb σ S1 H1 ρ1 _ R1 q1).mono fun vs H2 q => ?_
  obtain ⟨S2, ρ2, as, R2, E2, d2, q2⟩ := q
  exact ⟨S2, ρ2, x :: as, R2, E1.trans E2, .cons (d1.mono E2.same) d2, q2⟩

/-! ### displays -/
def vals? : List AV → Option (List D)
  | [] => some []
  | .val x :: as => (vals? as).map (x :: ·)
  | .slot _ :: _ => none
theorem vals_rps {K : PySem.W.Frag} : ∀ {vs : List V} {as : List AV} {xs : List D}, ARs K S σ vs as → vals? as = some xs → RpAll S vs xs
  | _, _, _, .nil, h => by cases h; exact .nil
  | _, _, _, .cons (b := .val x) r t, h => by
    cases q : vals? _ with
    | none => rw [vals?, q] at h; cases h
    | some ys =>
      rw [vals?, q] at h
      cases h
      exact .cons r (vals_rps t q)
  | _, _, _, .cons (b := .slot i) r t, h => by cases h
def tLstD (t : VA) : VE := fun ρ Q => t ρ fun as ρ1 => match vals? as with
  | some xs => xs.length ≤ sizeLine ∧ Q (.list xs) ρ1
  | none => False
def tTupD (t : VA) : VE := fun ρ Q => t ρ fun as ρ1 => match vals? as with
  | some xs => xs.length ≤ sizeLine ∧ Q (.tuple xs) ρ1
  | none => False
theorem jn_lst {t : VA} (h : JA X es t) : JN X (.List es pos) (tLstD t) := by
  intro σ S H ρ Q hR ht
  refine W.of (pe_lst paW) ((h σ S H ρ _ hR ht).mono fun vs H1 q => ?_)
  obtain ⟨S1, ρ1, as, R1, E1, d1, q1⟩ := q
  split at q1
  · rename_i xs e
    have g := vals_rps d1 e
    refine ⟨by rw [rps_len g]; exact q1.1, fun n hn => ?_⟩
    exact ⟨S1, ρ1, n, _, _, R1.new0 hn, E1.trans (.new0 R1 hn), rfl, E_none E1 hn, R1.sub.free hn, upd_same, g, q1.2⟩
  · exact q1.elim
theorem je_tup {t : VA} {x1} (h : JA X es t) : JE X (.Tuple es x1 pos) (tTupD t) := by
  intro σ S H ρ Q hR ht
  refine W.of (pe_tup paW) ((h σ S H ρ _ hR ht).mono fun vs H1 q => ?_)
  obtain ⟨S1, ρ1, as, R1, E1, d1, q1⟩ := q
  split at q1
  · rename_i xs e
    have g := vals_rps d1 e
    refine ⟨by rw [rps_len g]; exact q1.1, fun n hn => ?_⟩
    exact ⟨upd S1 n (.tup vs), ρ1, _, R1.new hn, E1.trans (.new R1 hn), .tup upd_same (g.mono (same_upd (R1.sub.free hn))), q1.2⟩
  · exact q1.elim

/-! ### items -/
theorem ixN_len {n m : Nat} (h : n = m) (i : Int) : ixN n i = ixN m i := by rw [h]
theorem rps_at {vs : List V} {xs : List D} {i : Int} {d : D} (h : RpAll S vs xs) (e : atI xs i = some d) : ∃ v, atI vs i = some v ∧ Rp S v d := by
  unfold atI at e ⊢
  rw [rps_len h]
  cases q : ixN xs.length i with
  | none => rw [q] at e; cases e
  | some j =>
    rw [q] at e
    exact rps_get h e
def tIx (ta tb : VT) : VE := fun ρ Q => ta ρ fun u ρ1 => tb ρ1 fun w ρ2 => match deref ρ2 u, deref ρ2 w with
  | some (.list xs), some (.int i) => ∃ d, atI xs i = some d ∧ Q d ρ2
  | some (.tuple xs), some (.int i) => ∃ d, atI xs i = some d ∧ Q d ρ2
  | some (.str z), some (.int i) => ∃ c, atI z.cps.toList i = some c ∧ z.length ≤ sizeLine ∧ Q (.str ⟨#[c]⟩) ρ2
  | _, _ => False
theorem je_ix (ha : JT X a ta) (hb : JT X b tb) (hs : PlainIx b) : JE X (.Subscript a b pos) (tIx ta tb) := by
  intro σ S H ρ Q hR ht
  refine W.of (pe_ix ix_seq peW peW hs) (two hR ha hb ht fun v w H2 S2 ρ2 u z R2 E d1 d2 q => ?_)
  split at q
  · rename_i xs i e1 e2
    obtain ⟨p, vs, rfl, hq, g⟩ := d1.list R2 e1
    obtain ⟨d, e, q⟩ := q
    obtain ⟨y, h1, h2⟩ := rps_at g e
    exact .inl ⟨p, vs, i, y, rfl, d2.int e2, hq, h1, S2, ρ2, d, R2, E, h2, q⟩
  · rename_i xs i e1 e2
    obtain ⟨p, vs, rfl, hq, g⟩ := d1.tup e1
    obtain ⟨d, e, q⟩ := q
    obtain ⟨y, h1, h2⟩ := rps_at g e
    exact .inr (.inl ⟨p, vs, i, y, rfl, d2.int e2, .of (R2.sub _ _ hq), h1, S2, ρ2, d, R2, E, h2, q⟩)
  · rename_i z i e1 e2
    obtain ⟨c, e, q⟩ := q
    exact .inr (.inr ⟨z, i, c, d1.str e1, d2.int e2, q.1, e, S2, ρ2, _, R2, E, .str _, q.2⟩)
  · exact q.elim

/-! ### slices -/
def cutD {α : Type} (xs : List α) (lo hi : Option Int) : List α := (xs.drop (HT.sIx xs.length 0 lo)).take (HT.sIx xs.length xs.length hi - HT.sIx xs.length 0 lo)
theorem rps_cut {vs : List V} {xs : List D} (h : RpAll S vs xs) (lo hi : Option Int) : RpAll S (cutV vs lo hi) (cutD xs lo hi) := by
  unfold cutV cutD
  rw [rps_len h]
  exact rps_take _ (rps_drop _ h)
abbrev VO := R → (Option Int → R → Prop) → Prop
def WP (X : Cx) (e : Option Expr) : TO := fun σ H Q => ∀ (pins : List (Addr × Obj)) (s : Shared), Inv X pins σ H s → wpAny (model X.prog X.w) X.A (evalPart e X.env) (fun u s' => ∃ o H', Inv X pins σ H' s' ∧ IsPart u o ∧ Q o H') X.xe s
theorem poW {o : Option Expr} : PO X o (WP X o) := ⟨fun pins s _ _ _ I h => h pins s I⟩
theorem WP.of {o : Option Expr} {t : TO} {Q : Option Int → Hp → Prop} (h : PO X o t) (ht : t σ H Q) : WP X o σ H Q := fun pins s I => h.run pins s σ H Q I ht
theorem WP.mono {o : Option Expr} {Q Q' : Option Int → Hp → Prop} (h : WP X o σ H Q) (hq : ∀ v H', Q v H' → Q' v H') : WP X o σ H Q' := fun pins s I =>
  thn (h pins s I) fun _ _ ⟨vs, H', I', r, q⟩ => ⟨vs, H', I', r, hq _ H' q⟩
def PostO (X : Cx) (σ : L2.St) (S H : Hp) (ρ : R) (Q : Option Int → R → Prop) : Option Int → Hp → Prop := fun o H' => ∃ S' ρ', Rel X.K (bd X) S' H' σ ρ' ∧ Ext σ S H ρ S' H' ρ' ∧ Q o ρ'
def JO (X : Cx) (e : Option Expr) (t : VO) : Prop := ∀ σ S H ρ Q, Rel X.K (bd X) S H σ ρ → t ρ Q → WP X e σ H (PostO X σ S H ρ Q)
def tONo : VO := fun ρ Q => Q none ρ
def tOSo (t : VT) : VO := fun ρ Q => t ρ fun u ρ1 => match deref ρ1 u with
  | some (.int i) => Q (some i) ρ1
  | _ => False
theorem jo_no : JO X none tONo := fun σ S H ρ Q hR ht => WP.of po_none ⟨S, ρ, hR, .refl, ht⟩
theorem jo_so (ha : JT X a ta) : JO X (some a) (tOSo ta) := by
  intro σ S H ρ Q hR ht
  refine WP.of (po_some peW) ((ha σ S H ρ _ hR ht).mono fun v H1 q => ?_)
  obtain ⟨S1, ρ1, u, R1, E1, d1, q1⟩ := q
  split at q1
  · rename_i i e
    exact ⟨i, d1.int e, S1, ρ1, R1, E1, q1⟩
  · exact q1.elim
/-- three parts of a slice -/
theorem three {tl th : VO} {lo hi : Option Expr} {f : AV → Option Int → Option Int → R → Prop} {Q : V → Option Int → Option Int → Hp → Prop} (hR : Rel X.K (bd X) S H σ ρ) (ha : JT X a ta) (hl : JO X lo tl) (hh : JO X hi th)
    (ht : ta ρ fun u ρ1 => tl ρ1 fun l ρ2 => th ρ2 fun h ρ3 => f u l h ρ3)
    (h : ∀ v H3 S3 ρ3 u l h, Rel X.K (bd X) S3 H3 σ ρ3 → Ext σ S H ρ S3 H3 ρ3 → ARep X.K S3 σ v u → f u l h ρ3 → Q v l h H3) : W X a σ H fun v H1 => WP X lo σ H1 fun l H2 => WP X hi σ H2 fun h H3 => Q v l h H3 := by
  refine (ha σ S H ρ _ hR ht).mono fun v H1 q => ?_
  obtain ⟨S1, ρ1, u, R1, E1, d1, q1⟩ := q
  refine (hl σ S1 H1 ρ1 _ R1 q1).mono fun l H2 q => ?_
  obtain ⟨S2, ρ2, R2, E2, q2⟩ := q
  refine (hh σ S2 H2 ρ2 _ R2 q2).mono fun r H3 q => ?_
  obtain ⟨S3, ρ3, R3, E3, q3⟩ := q
  exact h v H3 S3 ρ3 u l r R3 ((E1.trans E2).trans E3) (d1.mono (E2.same.trans E3.same)) q3
def tSlL (ta : VT) (tl th : VO) : VE := fun ρ Q => ta ρ fun u ρ1 => tl ρ1 fun l ρ2 => th ρ2 fun h ρ3 => match deref ρ3 u with
  | some (.list xs) => Q (.list (cutD xs l h)) ρ3
  | _ => False
theorem jn_sl {tl th : VO} {lo hi : Option Expr} {p2 : Pos} (ha : JT X a ta) (hl : JO X lo tl) (hh : JO X hi th) : JN X (.Subscript a (.Slice lo hi none p2) pos) (tSlL ta tl th) := by
  intro σ S H ρ Q hR ht
  refine W.of (pe_slice sl_list peW poW poW) (three hR ha hl hh ht fun v H3 S3 ρ3 u l h R3 E d q => ?_)
  split at q
  · rename_i xs e
    obtain ⟨p, vs, rfl, hq, g⟩ := d.list R3 e
    exact ⟨p, vs, rfl, hq, fun n hn => ⟨S3, ρ3, n, _, _, R3.new0 hn, E.trans (.new0 R3 hn), rfl, E_none E hn, R3.sub.free hn, upd_same, rps_cut g l h, q⟩⟩
  · exact q.elim
def tSlS (ta : VT) (tl th : VO) : VE := fun ρ Q => ta ρ fun u ρ1 => tl ρ1 fun l ρ2 => th ρ2 fun h ρ3 => match deref ρ3 u with
  | some (.str z) => z.length ≤ sizeLine ∧ Q (.str (cutS z l h)) ρ3
  | _ => False
theorem je_slS {tl th : VO} {lo hi : Option Expr} {p2 : Pos} (ha : JT X a ta) (hl : JO X lo tl) (hh : JO X hi th) : JE X (.Subscript a (.Slice lo hi none p2) pos) (tSlS ta tl th) := by
  intro σ S H ρ Q hR ht
  refine W.of (pe_slice sl_str peW poW poW) (three hR ha hl hh ht fun v H3 S3 ρ3 u l h R3 E d q => ?_)
  split at q
  · rename_i z e
    exact ⟨z, d.str e, q.1, S3, ρ3, _, R3, E, .str _, q.2⟩
  · exact q.elim
end
end WA

/-! WA5: built-ins, methods, calls of defs. -/
namespace WA
open PySem PySem.Spec PyProof.Rows L2

/-! ### built-ins that give a number, a text, a truth -/
inductive Bl where
  | len | str | int | sum | min1 | max1 | min2 | max2 | any | all | abs
  deriving DecidableEq
def Bl.name : Bl → Str
  | .len => "len"
  | .str => "str"
  | .int => "int"
  | .sum => "sum"
  | .min1 => "min"
  | .max1 => "max"
  | .min2 => "min"
  | .max2 => "max"
  | .any => "any"
  | .all => "all"
  | .abs => "abs"
def Bl.ty : Bl → Bool
  | .str => true
  | .int => true
  | _ => false
def Bl.id : Bl → String
  | .len => "len"
  | .str => "str"
  | .int => "int"
  | .sum => "sum"
  | .min1 => "min"
  | .max1 => "max"
  | .min2 => "min"
  | .max2 => "max"
  | .any => "any"
  | .all => "all"
  | .abs => "abs"
def Bl.v (b : Bl) : Value := if b.ty then .type b.id else .builtin b.id
theorem Bl.boot (b : Bl) : bootBuiltins b.name = some b.v := by cases b <;> decide +kernel
theorem Bl.nn (b : Bl) : b.name ≠ "__name__" := by cases b <;> decide +kernel
theorem Bl.nd (b : Bl) : (b.name == ("__debug__" : Str)) = false := by cases b <;> decide +kernel
def vBlt (b : Bl) (xs : List (Option D)) (Q : D → Prop) : Prop := match b, xs with
  | .len, [some (.list xs)] => Q (.int xs.length)
  | .len, [some (.tuple xs)] => Q (.int xs.length)
  | .len, [some (.str z)] => z.length ≤ sizeLine ∧ Q (.int z.length)
  | .str, [some (.int i)] => i.natAbs.log2 < 1920 ∧ Q (.str (toString i))
  | .int, [some (.int i)] => Q (.int i)
  | .int, [some (.bool k)] => Q (.int (if k then 1 else 0))
  | .int, [some (.str a)] => ∃ n, PySem.intText? a = some n ∧ a.length ≤ 640 ∧ Q (.int n)
  | .sum, [some (.list xs)] => ∃ ns : List Int, xs = ns.map PyData.int ∧ Q (.int ns.sum)
  | .min1, [some (.list xs)] => ∃ ns : List Int, xs = ns.map PyData.int ∧ 0 < ns.length ∧ ∀ m, m ∈ ns → (∀ y, y ∈ ns → m ≤ y) → Q (.int m)
  | .max1, [some (.list xs)] => ∃ ns : List Int, xs = ns.map PyData.int ∧ 0 < ns.length ∧ ∀ m, m ∈ ns → (∀ y, y ∈ ns → y ≤ m) → Q (.int m)
  | .min2, [some (.int i), some (.int j)] => Q (.int (if j < i then j else i))
  | .max2, [some (.int i), some (.int j)] => Q (.int (if j > i then j else i))
  | .any, [some (.list xs)] => ∃ bs : List Bool, xs = bs.map PyData.bool ∧ Q (.bool (bs.any id))
  | .all, [some (.list xs)] => ∃ bs : List Bool, xs = bs.map PyData.bool ∧ Q (.bool (bs.all id))
  | .abs, [some (.int i)] => Q (.int (if i < 0 then -i else i))
  | _, _ => False
section
variable {X : Cx} {pos p : Pos} {e a b : Expr} {es : List Expr} {ta tb : VT} {σ : L2.St} {S H : Hp} {ρ : R} {K : PySem.W.Frag} {B : Nat}
theorem ars1 {vs : List V} {as : List AV} {x : Option D} (h : ARs K S σ vs as) (e : as.map (deref ρ) = [x]) : ∃ v a, vs = [v] ∧ as = [a] ∧ ARep K S σ v a ∧ deref ρ a = x := by
  cases h with
  | nil => cases e
  | cons r t =>
    cases t with
    | nil => exact ⟨_, _, rfl, rfl, r, by simpa using e⟩
    | cons r' t' => simp at e
theorem ars2 {vs : List V} {as : List AV} {x y : Option D} (h : ARs K S σ vs as) (e : as.map (deref ρ) = [x, y]) : ∃ v a w b, vs = [v, w] ∧ as = [a, b] ∧ ARep K S σ v a ∧ deref ρ a = x ∧ ARep K S σ w b ∧ deref ρ b = y := by
  cases h with
  | nil => cases e
  | cons r t =>
    cases t with
    | nil => simp at e
    | cons r' t' =>
      cases t' with
      | nil =>
        simp at e
        exact ⟨_, _, _, _, rfl, rfl, r, e.1, r', e.2⟩
      | cons r'' t'' => simp at e
theorem blt_core {bl : Bl} {vs : List V} {as : List AV} {Q : VK} {P : D → Prop} (hc : X.calm = true) (R : Rel X.K (bd X) S H σ ρ) (d : ARs X.K S σ vs as) (h : vBlt bl (as.map (deref ρ)) P) (hq : ∀ x v, P x → Rp S v x → Q v H) : WCl X bl.v vs H Q := by
  unfold vBlt at h
  split at h
  · rename_i xs e
    obtain ⟨v, a, rfl, rfl, r, e1⟩ := ars1 d e
    obtain ⟨p, ws, rfl, g1, g2⟩ := r.list R e1
    exact WCl.of call_len_seq ⟨p, ws, rfl, .inl g1, by rw [rps_len g2]; exact hq _ _ h (.int _)⟩
  · rename_i xs e
    obtain ⟨v, a, rfl, rfl, r, e1⟩ := ars1 d e
    obtain ⟨p, ws, rfl, g1, g2⟩ := r.tup e1
    exact WCl.of call_len_seq ⟨p, ws, rfl, .inr (.of (R.sub _ _ g1)), by rw [rps_len g2]; exact hq _ _ h (.int _)⟩
  · rename_i z e
    obtain ⟨v, a, rfl, rfl, r, e1⟩ := ars1 d e
    rw [r.str e1]
    exact WCl.of call_len_str ⟨z, rfl, h.1, hq _ _ h.2 (.int _)⟩
  · rename_i i e
    obtain ⟨v, a, rfl, rfl, r, e1⟩ := ars1 d e
    rw [r.int e1]
    exact WCl.of call_str_int ⟨i, rfl, h.1, hq _ _ h.2 (.str _)⟩
  · rename_i i e
    obtain ⟨v, a, rfl, rfl, r, e1⟩ := ars1 d e
    rw [r.int e1]
    exact WCl.of call_int1 (.inl ⟨i, rfl, hq _ _ h (.int _)⟩)
  · rename_i k e
    obtain ⟨v, a, rfl, rfl, r, e1⟩ := ars1 d e
    rw [r.bl e1]
    exact WCl.of call_int1 (.inr ⟨k, rfl, hq _ _ h (.int _)⟩)
  · rename_i z e
    obtain ⟨v, a, rfl, rfl, r, e1⟩ := ars1 d e
    obtain ⟨n, h1, h2, h⟩ := h
    rw [r.str e1]
    exact WCl.of call_int_str ⟨z, n, rfl, h1, h2, hq _ _ h (.int _)⟩
  · rename_i xs e
    obtain ⟨v, a, rfl, rfl, r, e1⟩ := ars1 d e
    obtain ⟨ns, rfl, h⟩ := h
    obtain ⟨p, ws, rfl, g1, g2⟩ := r.list R e1
    have e := rps_ints g2
    subst e
    exact WCl.of (cr_sum hc) ⟨p, ns, rfl, g1, hq _ _ h (.int _)⟩
  · rename_i xs e
    obtain ⟨v, a, rfl, rfl, r, e1⟩ := ars1 d e
    obtain ⟨ns, rfl, hn, h⟩ := h
    obtain ⟨p, ws, rfl, g1, g2⟩ := r.list R e1
    have e := rps_ints g2
    subst e
    exact WCl.of (cr_min hc) ⟨p, ns, rfl, g1, hn, fun m h1 h2 => hq _ _ (h m h1 h2) (.int _)⟩
  · rename_i xs e
    obtain ⟨v, a, rfl, rfl, r, e1⟩ := ars1 d e
    obtain ⟨ns, rfl, hn, h⟩ := h
    obtain ⟨p, ws, rfl, g1, g2⟩ := r.list R e1
    have e := rps_ints g2
    subst e
    exact WCl.of (cr_max hc) ⟨p, ns, rfl, g1, hn, fun m h1 h2 => hq _ _ (h m h1 h2) (.int _)⟩
  · rename_i i j e
    obtain ⟨v, a, w, b, rfl, rfl, r, e1, r', e2⟩ := ars2 d e
    rw [r.int e1, r'.int e2]
    exact WCl.of (call_min2 hc) ⟨i, j, rfl, hq _ _ h (.int _)⟩
  · rename_i i j e
    obtain ⟨v, a, w, b, rfl, rfl, r, e1, r', e2⟩ := ars2 d e
    rw [r.int e1, r'.int e2]
    exact WCl.of (call_max2 hc) ⟨i, j, rfl, hq _ _ h (.int _)⟩
  · rename_i xs e
    obtain ⟨v, a, rfl, rfl, r, e1⟩ := ars1 d e
    obtain ⟨bs, rfl, h⟩ := h
    obtain ⟨p, ws, rfl, g1, g2⟩ := r.list R e1
    have e := rps_bls g2
    subst e
    exact WCl.of (cr_any hc) ⟨p, bs, rfl, g1, hq _ _ h (.bl _)⟩
  · rename_i xs e
    obtain ⟨v, a, rfl, rfl, r, e1⟩ := ars1 d e
    obtain ⟨bs, rfl, h⟩ := h
    obtain ⟨p, ws, rfl, g1, g2⟩ := r.list R e1
    have e := rps_bls g2
    subst e
    exact WCl.of (cr_all hc) ⟨p, bs, rfl, g1, hq _ _ h (.bl _)⟩
  · rename_i i e
    obtain ⟨v, a, rfl, rfl, r, e1⟩ := ars1 d e
    rw [r.int e1]
    exact WCl.of call_abs ⟨i, rfl, hq _ _ h (.int _)⟩
  · exact h.elim
def tBlt (b : Bl) (t : VA) : VE := fun ρ Q => t ρ fun as ρ1 => vBlt b (as.map (deref ρ1)) fun r => Q r ρ1
theorem je_blt {bl : Bl} {t : VA} (hc : X.calm = true) (hg : Gl X bl.name) (hm : X.mg bl.name = none) (h : JA X (e :: es) t) (hs : (e :: es).all notStar = true) : JE X (.Call (.Name bl.name p) (e :: es) [] pos) (tBlt bl t) := by
  intro σ S H ρ Q hR ht
  rw [List.all_cons, Bool.and_eq_true] at hs
  have hb := bl.boot
  have go : WAr X (e :: es) σ H fun vs H1 => WCl X bl.v vs H1 (PostE X σ S H ρ Q) := by
    refine (h σ S H ρ _ hR ht).mono fun vs H1 q => ?_
    obtain ⟨S1, ρ1, as, R1, E1, d1, q1⟩ := q
    exact blt_core hc R1 d1 q1 fun x v h r => ⟨S1, ρ1, x, R1, E1, r, h⟩
  cases ht : bl.ty with
  | true =>
    have e1 : bl.v = .type bl.id := by unfold Bl.v; rw [ht]; rfl
    rw [e1] at hb go
    exact W.of (pe_callTy clW hg hm hb paW bl.nn bl.nd (star_cons hs.1) (star_none hs.2)) go
  | false =>
    have e1 : bl.v = .builtin bl.id := by unfold Bl.v; rw [ht]; rfl
    rw [e1] at hb go
    exact W.of (pe_callB clW hg hm hb paW bl.nn bl.nd (star_cons hs.1) (star_none hs.2)) go

/-! ### sorted(xs), list(xs) -/
def tSrt (ta : VT) : VE := fun ρ Q => ta ρ fun u ρ1 => match deref ρ1 u with
  | some (.list xs) => ∃ zs : List Str, xs = zs.map PyData.str ∧ Q (.list ((srt zs).map PyData.str)) ρ1
  | _ => False
theorem jn_srt (hg : Gl X "sorted") (hm : X.mg "sorted" = none) (ha : JT X a ta) (hs : notStar a = true) : JN X (.Call (.Name "sorted" p) [a] [] pos) (tSrt ta) := by
  intro σ S H ρ Q hR ht
  refine W.of (pe_callB (id := "sorted") clW hg hm (by decide +kernel) (pa_cons peW pa_nil (star_cons hs)) (by decide) (by decide) (star_cons hs) rfl) ((ha σ S H ρ _ hR ht).mono fun v H1 q => ?_)
  obtain ⟨S1, ρ1, u, R1, E1, d1, q1⟩ := q
  split at q1
  · rename_i xs e1
    obtain ⟨zs, rfl, q1⟩ := q1
    obtain ⟨p, ws, rfl, g1, g2⟩ := d1.list R1 e1
    have e := rps_strs g2
    subst e
    exact WCl.of cr_sortedT ⟨p, zs, rfl, g1, fun n hn => ⟨S1, ρ1, n, _, _, R1.new0 hn, E1.trans (.new0 R1 hn), rfl, E_none E1 hn, R1.sub.free hn, upd_same, rps_of_strs _, q1⟩⟩
  · exact q1.elim
def tLs (ta : VT) : VE := fun ρ Q => ta ρ fun u ρ1 => match deref ρ1 u with
  | some (.list xs) => Q (.list xs) ρ1
  | some (.tuple xs) => Q (.list xs) ρ1
  | _ => False
theorem jn_ls (hg : Gl X "list") (hm : X.mg "list" = none) (ha : JT X a ta) (hs : notStar a = true) : JN X (.Call (.Name "list" p) [a] [] pos) (tLs ta) := by
  intro σ S H ρ Q hR ht
  refine W.of (pe_callTy (T := "list") clW hg hm (by decide +kernel) (pa_cons peW pa_nil (star_cons hs)) (by decide) (by decide) (star_cons hs) rfl) ((ha σ S H ρ _ hR ht).mono fun v H1 q => ?_)
  obtain ⟨S1, ρ1, u, R1, E1, d1, q1⟩ := q
  split at q1
  · rename_i xs e1
    obtain ⟨p, ws, rfl, g1, g2⟩ := d1.list R1 e1
    exact WCl.of call_list_of ⟨p, ws, rfl, .inl g1, fun n hn => ⟨S1, ρ1, n, _, _, R1.new0 hn, E1.trans (.new0 R1 hn), rfl, E_none E1 hn, R1.sub.free hn, upd_same, g2, q1⟩⟩
  · rename_i xs e1
    obtain ⟨p, ws, rfl, g1, g2⟩ := d1.tup e1
    exact WCl.of call_list_of ⟨p, ws, rfl, .inr (.of (R1.sub _ _ g1)), fun n hn => ⟨S1, ρ1, n, _, _, R1.new0 hn, E1.trans (.new0 R1 hn), rfl, E_none E1 hn, R1.sub.free hn, upd_same, g2, q1⟩⟩
  · exact q1.elim

/-! ### isinstance(x, T) -/
def kindD : D → String
  | .none => "NoneType"
  | .bool _ => "bool"
  | .int _ => "int"
  | .str _ => "str"
  | .list _ => "list"
  | .tuple _ => "tuple"
  | .dict _ => "dict"
inductive Ty where
  | int | bool | str | list | tuple
def Ty.s : Ty → String
  | .int => "int"
  | .bool => "bool"
  | .str => "str"
  | .list => "list"
  | .tuple => "tuple"
def Ty.name : Ty → Str
  | .int => "int"
  | .bool => "bool"
  | .str => "str"
  | .list => "list"
  | .tuple => "tuple"
theorem Ty.boot (t : Ty) : bootBuiltins t.name = some (.type t.s) := by cases t <;> decide +kernel
theorem Ty.nn (b : Ty) : b.name ≠ "__name__" := by cases b <;> decide +kernel
theorem Ty.nd (b : Ty) : (b.name == ("__debug__" : Str)) = false := by cases b <;> decide +kernel
def isiD (t : Ty) (x : D) : Bool := kindD x == t.s || (kindD x == "bool" && t.s == "int")
theorem isi_kit {K : PySem.W.Frag} (t : Ty) (k : String) (hk : k = "NoneType" ∨ k = "bool" ∨ k = "int" ∨ k = "str" ∨ k = "list" ∨ k = "tuple") : PySem.W.kitOne K (.type k) (.type t.s) = some (k == t.s || (k == "bool" && t.s == "int")) := by
  rcases hk with rfl | rfl | rfl | rfl | rfl | rfl <;> cases t <;> exact kit_ty (by decide +kernel)
theorem rp_tyx {v : V} {u : AV} {x : D} (R : Rel K B S H σ ρ) (d : ARep K S σ v u) (e : deref ρ u = some x) (st : strict ρ u = true) : TyX K H v (.type (kindD x)) ∧ (kindD x = "NoneType" ∨ kindD x = "bool" ∨ kindD x = "int" ∨ kindD x = "str" ∨ kindD x = "list" ∨ kindD x = "tuple") := by
  cases x with
  | none => rw [d.non e]; exact ⟨.base .non, .inl rfl⟩
  | bool b => rw [d.bl e]; exact ⟨.base (.bl _), .inr (.inl rfl)⟩
  | int b => rw [d.int e]; exact ⟨.base (.int _), .inr (.inr (.inl rfl))⟩
  | str b => rw [d.str e]; exact ⟨.base (.str _), .inr (.inr (.inr (.inl rfl)))⟩
  | list xs =>
    obtain ⟨p, ws, rfl, g1, g2⟩ := d.listS R e st
    exact ⟨.base (.lst g1), .inr (.inr (.inr (.inr (.inl rfl))))⟩
  | tuple xs =>
    obtain ⟨p, ws, rfl, g1, g2⟩ := d.tup e
    exact ⟨.base (.tup (R.sub _ _ g1)), .inr (.inr (.inr (.inr (.inr rfl))))⟩
  | dict kvs => cases d.flat e (fun _ z => by cases z)
def tIsi (t : Ty) (ta : VT) : VE := fun ρ Q => ta ρ fun u ρ1 => match deref ρ1 u with
  | some x => strict ρ1 u = true ∧ Q (.bool (isiD t x)) ρ1
  | none => False
theorem je_isi {t : Ty} {p2 : Pos} (hg : Gl X "isinstance") (hm : X.mg "isinstance" = none) (hg2 : Gl X t.name) (hm2 : X.mg t.name = none) (ha : JT X a ta) (hs : notStar a = true) : JE X (.Call (.Name "isinstance" p) [a, .Name t.name p2] [] pos) (tIsi t ta) := by
  intro σ S H ρ Q hR ht
  refine W.of (pe_callB (id := "isinstance") clW hg hm (by decide +kernel) (pa_cons peW (pa_cons (pe_bltn (v := .ty t.s) hg2 hm2 t.boot rfl t.nn t.nd) pa_nil) (star_cons hs)) (by decide) (by decide) (star_cons hs) rfl) ((ha σ S H ρ _ hR ht).mono fun v H1 q => ?_)
  obtain ⟨S1, ρ1, u, R1, E1, d1, q1⟩ := q
  split at q1
  · rename_i x e1
    obtain ⟨h1, h2⟩ := rp_tyx R1 d1 e1 q1.1
    exact WCl.of call_isi ⟨v, .ty t.s, _, _, _, rfl, .ty _, h1, isi_kit t _ h2, S1, ρ1, _, R1, E1, .bl _, q1.2⟩
  · exact q1.elim

/-! ### a list of one's own is changed -/
theorem sqL_upd {a b : Addr} {o : HO} {ws : List V} (h : SqL K H b ws) (n : b ≠ a) : SqL K (upd H a o) b ws := by
  rcases h with (h | ⟨ob, h⟩) | h
  · exact .inl (.inl (by rw [upd_ne n]; exact h))
  · exact .inl (.inr ⟨ob, by rw [upd_ne n]; exact h⟩)
  · exact .inr h
theorem Rel.put {i : Nat} {a : Addr} {xs ys : List D} {vs : List V} (h : Rel K B S H σ ρ) (ho : ρ[i]? = some (.own xs)) (ha : σ[i]? = some (some (.ref a))) (g : RpAll S vs ys) : Rel K B S (upd H a (.lst vs)) σ (ρ.set i (.own ys)) := by
  have hi : i < ρ.length := (List.getElem?_eq_some_iff.mp ho).1
  have hS : S a = none := (h.own_at ⟨i, _, ow ho, ha⟩).1
  have get : ∀ (j : Nat) (x : Sl), (ρ.set i (.own ys))[j]? = some x → (j = i ∧ x = .own ys) ∨ (j ≠ i ∧ ρ[j]? = some x) := fun j x hx => by
    by_cases e : j = i
    · subst e
      rw [List.getElem?_set_self hi] at hx
      exact .inl ⟨rfl, (Option.some.inj hx).symm⟩
    · rw [List.getElem?_set_ne (fun z => e z.symm)] at hx
      exact .inr ⟨e, hx⟩
  have oa : ∀ {b : Addr}, OwnAt σ (ρ.set i (.own ys)) b → OwnAt σ ρ b := fun {b} ⟨m, us, hm, e⟩ => by
    rcases get m _ hm.1 with ⟨rfl, _⟩ | ⟨_, q⟩
    · exact ⟨m, _, ow ho, e⟩
    · exact ⟨m, us, ⟨q, hm.2⟩, e⟩
  refine ⟨by rw [List.length_set]; exact h.len, fun b o e => ?_, fun j x hx => ?_, fun j zs hx => ?_, fun j k zs hx => ?_, fun j k s t b h1 h2 h3 h4 => ?_, ?_⟩
  · rw [upd_ne (ne_of_none e hS)]
    exact h.sub _ _ e
  · rcases get j _ hx with ⟨_, q⟩ | ⟨_, q⟩
    · cases q
    · exact h.val j x q
  · rcases get j _ hx with ⟨rfl, q⟩ | ⟨n, q⟩
    · cases q
      exact ⟨a, vs, ha, hS, upd_same, g⟩
    · obtain ⟨b, ws, b1, b2, b3, b4⟩ := h.own j zs q
      have nb : b ≠ a := fun z => n (h.sep j i _ _ b (ow q) (ow ho) b1 (by rw [z]; exact ha))
      exact ⟨b, ws, b1, b2, by rw [upd_ne nb]; exact b3, b4⟩
  · rcases get j _ hx with ⟨_, q⟩ | ⟨_, q⟩
    · cases q
    · obtain ⟨b, ws, b1, b2, b3⟩ := h.ro j k zs q
      refine ⟨b, ws, b1, b2.to (fun o e n => ?_) (fun _ z => ?_), b3⟩
      · rw [upd_ne (fun z => n ⟨i, _, ow ho, by rw [z]; exact ha⟩)]
        exact e
      · exact oa z
  · rcases get j _ h1.1 with ⟨rfl, _⟩ | ⟨n1, q1⟩
    · rcases get k _ h2.1 with ⟨rfl, _⟩ | ⟨n2, q2⟩
      · rfl
      · exact h.sep _ _ _ _ b (ow ho) ⟨q2, h2.2⟩ h3 h4
    · rcases get k _ h2.1 with ⟨rfl, _⟩ | ⟨n2, q2⟩
      · exact h.sep _ _ _ _ b ⟨q1, h1.2⟩ (ow ho) h3 h4
      · exact h.sep _ _ _ _ b ⟨q1, h1.2⟩ ⟨q2, h2.2⟩ h3 h4
  · refine h.vir.to (fun j s q l => ?_) (fun _ _ => rfl) (fun j k is c u q1 q2 q3 q4 => ⟨q3, ?_⟩) (fun d c q1 q2 n => ⟨q2, ?_, fun z => n (oa z)⟩)
    · rcases get j _ q with ⟨_, z⟩ | ⟨_, z⟩
      · rw [z] at l; cases l
      · exact ⟨z, rfl⟩
    · have n : j ≠ i := fun z => by rw [z, ho] at q1; cases q1
      rw [upd_ne (fun z => n (h.sep j i _ _ c ⟨q1, rfl⟩ (ow ho) q2 (by rw [z]; exact ha)))]
      exact q4
    · obtain ⟨a', ws, e1, _, e3, _⟩ := h.own i xs ho
      rw [ha] at e1
      cases e1
      rw [upd_ne (fun z => by rw [z, e3] at q1; cases q1)]
      exact q1
theorem Ext.put {i : Nat} {a : Addr} {xs ys : List D} {vs : List V} (h : Rel K B S H σ ρ) (ho : ρ[i]? = some (.own xs)) (ha : σ[i]? = some (some (.ref a))) : Ext σ S H ρ S (upd H a (.lst vs)) (ρ.set i (.own ys)) := by
  have hi : i < ρ.length := (List.getElem?_eq_some_iff.mp ho).1
  refine ⟨Same.refl _, fun b hb => ?_, fun _ _ q => q, fun b o e _ n => ?_, fun j => ?_, fun j n => ?_⟩
  · by_cases z : b = a
    · rw [z, upd_same]; simp
    · rw [upd_ne z]; exact hb
  · rw [upd_ne (fun z => n ⟨i, _, ow ho, by rw [z]; exact ha⟩)]
    exact e
  · by_cases e : j = i
    · subst e
      rw [List.getElem?_set_self hi]
      exact ⟨fun _ => ⟨_, rfl⟩, fun _ => ⟨_, ho⟩⟩
    · rw [List.getElem?_set_ne (fun z => e z.symm)]
  · have e : j ≠ i := fun e => n xs (by rw [e]; exact ho)
    rw [List.getElem?_set_ne (fun z => e z.symm)]
/-- a name of the def, as the thing that a method changes -/
def isOwn (ρ : R) (i : Nat) : Prop := ∃ xs, ρ[i]? = some (.own xs)
theorem few1 {cpos : Pos} {env : Env} (h : notStar e = true) : ((backTo cpos (starEach [e] env)).all (fun x => !x.1) && (backToKw cpos (keywordEach [] env)).all (fun x => x.1.isSome)
      && decide ([e].length + ([] : List Keyword).length + (if ([] : List Keyword).isEmpty then 0 else 1) < 30)) = true := by
  rw [star_cons h]
  rfl
/-- what is asked of a name at the head of a method's call -/
structure Nm (X : Cx) (i : Nat) (x : Str) : Prop where
  n : X.N[i]? = some x
  v : Vis X.env.scope x
  d : (x == ("__debug__" : Str)) = false
  c : (x == ("__classdict__" : Str)) = false
theorem Nm.pe {i : Nat} {x : Str} (h : Nm X i x) : PE X (.Name x p) (tVar i) := pe_var h.n h.v h.d h.c
def tApp (i : Nat) (te : VT) : VE := fun ρ Q => isOwn ρ i ∧ te ρ fun u ρ1 => match u, ρ1[i]? with
  | .val d, some (.own xs) => xs.length < sizeLine ∧ Q .none (ρ1.set i (.own (xs ++ [d])))
  | _, _ => False
theorem je_app {i : Nat} {x : Str} {apos : Pos} (hn : Nm X i x) (ha : JT X a ta) (hs : notStar a = true) (hl : (apos.endLine == pos.line) = true) : JE X (.Call (.Attribute (.Name x p) "append" apos) [a] [] pos) (tApp i ta) := by
  intro σ S H ρ Q hR ht
  obtain ⟨⟨zs, hz⟩, ht⟩ := ht
  obtain ⟨l, ws, l1, l2, l3, l4⟩ := hR.own i zs hz
  refine W.of (pe_bm PySem.F.plainAttrs_list PySem.F.slot_list_append PySem.F.type_list_append mt_append hn.pe (pa_cons peW pa_nil (star_cons hs)) rfl (few1 hs) hl (star_cons hs) rfl) ?_
  refine ⟨.ref l, l1, .inl ⟨rfl, _, SqL.of l3⟩, (ha σ S H ρ _ hR ht).mono fun v H1 q => ?_⟩
  obtain ⟨S1, ρ1, u, R1, E1, d1, q1⟩ := q
  split at q1
  · rename_i d xs e
    obtain ⟨b, vs, b1, b2, b3, b4⟩ := R1.own i xs e
    rw [l1] at b1
    cases b1
    refine ⟨l, vs, v, rfl, rfl, b3, by rw [rps_len b4]; exact q1.1, S1, _, _, R1.put e l1 (rps_app b4 (rps_one d1)), E1.trans (.put R1 e l1), .non, q1.2⟩
  · exact q1.elim
def tXtd (i : Nat) (te : VT) : VE := fun ρ Q => isOwn ρ i ∧ te ρ fun u ρ1 => match deref ρ1 u, ρ1[i]? with
  | some (.list ds), some (.own xs) => strict ρ1 u = true ∧ xs.length + ds.length ≤ sizeLine ∧ Q .none (ρ1.set i (.own (xs ++ ds)))
  | _, _ => False
theorem je_xtd {i : Nat} {x : Str} {apos : Pos} (hn : Nm X i x) (ha : JT X a ta) (hs : notStar a = true) (hl : (apos.endLine == pos.line) = true) : JE X (.Call (.Attribute (.Name x p) "extend" apos) [a] [] pos) (tXtd i ta) := by
  intro σ S H ρ Q hR ht
  obtain ⟨⟨zs, hz⟩, ht⟩ := ht
  obtain ⟨l, ws, l1, l2, l3, l4⟩ := hR.own i zs hz
  refine W.of (pe_bm PySem.F.plainAttrs_list PySem.F.slot_list_extend PySem.F.type_list_extend mt_extend hn.pe (pa_cons peW pa_nil (star_cons hs)) rfl (few1 hs) hl (star_cons hs) rfl) ?_
  refine ⟨.ref l, l1, .inl ⟨rfl, _, SqL.of l3⟩, (ha σ S H ρ _ hR ht).mono fun v H1 q => ?_⟩
  obtain ⟨S1, ρ1, u, R1, E1, d1, q1⟩ := q
  split at q1
  · rename_i ds xs e1 e
    obtain ⟨st, hz, q1⟩ := q1
    obtain ⟨b, vs, b1, b2, b3, b4⟩ := R1.own i xs e
    obtain ⟨p, us, rfl, c1, c2⟩ := d1.listS R1 e1 st
    rw [l1] at b1
    cases b1
    exact ⟨l, p, vs, us, rfl, rfl, b3, c1, by rw [rps_len b4, rps_len c2]; exact hz, S1, _, _, R1.put e l1 (rps_app b4 c2), E1.trans (.put R1 e l1), .non, q1⟩
  · exact q1.elim
def tPop (i : Nat) : VE := fun ρ Q => match ρ[i]? with
  | some (.own xs) => ∃ d, xs[xs.length - 1]? = some d ∧ Q d (ρ.set i (.own xs.dropLast))
  | _ => False
theorem je_pop {i : Nat} {x : Str} {apos : Pos} (hn : Nm X i x) (hl : (apos.endLine == pos.line) = true) : JE X (.Call (.Attribute (.Name x p) "pop" apos) [] [] pos) (tPop i) := by
  intro σ S H ρ Q hR ht
  unfold tPop at ht
  split at ht
  · rename_i xs e
    obtain ⟨l, vs, l1, l2, l3, l4⟩ := hR.own i xs e
    obtain ⟨d, hd, ht⟩ := ht
    obtain ⟨v, hv, hr⟩ := rps_get l4 hd
    refine W.of (pe_bm0 PySem.F.plainAttrs_list PySem.F.slot_list_pop PySem.F.type_list_pop mt_pop hn.pe rfl hl) ?_
    refine ⟨.ref l, l1, .inl ⟨rfl, _, SqL.of l3⟩, l, vs, v, rfl, rfl, l3, by rw [rps_len l4]; exact hv, S, _, d, hR.put e l1 (rps_dropLast l4), .put hR e l1, hr, ht⟩
  · exact ht.elim
def tPopAt (i : Nat) (te : VT) : VE := fun ρ Q => isOwn ρ i ∧ te ρ fun u ρ1 => match deref ρ1 u, ρ1[i]? with
  | some (.int k), some (.own xs) => -(2 ^ 63) ≤ k ∧ k < 2 ^ 63 ∧ ∃ j d, seqIndex? k xs.length = some j ∧ xs[j]? = some d ∧ Q d (ρ1.set i (.own (xs.eraseIdx j)))
  | _, _ => False
theorem je_popAt {i : Nat} {x : Str} {apos : Pos} (hn : Nm X i x) (ha : JT X a ta) (hs : notStar a = true) (hl : (apos.endLine == pos.line) = true) : JE X (.Call (.Attribute (.Name x p) "pop" apos) [a] [] pos) (tPopAt i ta) := by
  intro σ S H ρ Q hR ht
  obtain ⟨⟨zs, hz⟩, ht⟩ := ht
  obtain ⟨l, ws, l1, l2, l3, l4⟩ := hR.own i zs hz
  refine W.of (pe_bm PySem.F.plainAttrs_list PySem.F.slot_list_pop PySem.F.type_list_pop mt_popAt hn.pe (pa_cons peW pa_nil (star_cons hs)) rfl (few1 hs) hl (star_cons hs) rfl) ?_
  refine ⟨.ref l, l1, .inl ⟨rfl, _, SqL.of l3⟩, (ha σ S H ρ _ hR ht).mono fun v H1 q => ?_⟩
  obtain ⟨S1, ρ1, u, R1, E1, d1, q1⟩ := q
  split at q1
  · rename_i k xs e1 e
    obtain ⟨h1, h2, q1⟩ := q1
    obtain ⟨b, vs, b1, b2, b3, b4⟩ := R1.own i xs e
    rw [l1] at b1
    cases b1
    obtain ⟨j, d, hj, hd, q1⟩ := q1
    obtain ⟨y, hy, hr⟩ := rps_get b4 hd
    refine ⟨l, vs, k, j, y, rfl, by rw [d1.int e1], b3, h1, h2, by rw [rps_len b4]; exact hj, hy, S1, _, d, R1.put e l1 (rps_erase j b4), E1.trans (.put R1 e l1), hr, q1⟩
  · exact q1.elim
def tRev (i : Nat) : VE := fun ρ Q => match ρ[i]? with
  | some (.own xs) => Q .none (ρ.set i (.own xs.reverse))
  | _ => False
theorem je_rev {i : Nat} {x : Str} {apos : Pos} (hn : Nm X i x) (hl : (apos.endLine == pos.line) = true) : JE X (.Call (.Attribute (.Name x p) "reverse" apos) [] [] pos) (tRev i) := by
  intro σ S H ρ Q hR ht
  unfold tRev at ht
  split at ht
  · rename_i xs e
    obtain ⟨l, vs, l1, l2, l3, l4⟩ := hR.own i xs e
    refine W.of (pe_bm0 PySem.F.plainAttrs_list PySem.F.slot_list_reverse PySem.F.type_list_reverse mt_reverse hn.pe rfl hl) ?_
    exact ⟨.ref l, l1, .inl ⟨rfl, _, SqL.of l3⟩, l, vs, rfl, rfl, l3, S, _, .none, hR.put e l1 (rps_rev l4), .put hR e l1, .non, ht⟩
  · exact ht.elim
def tClr (i : Nat) : VE := fun ρ Q => match ρ[i]? with
  | some (.own xs) => Q .none (ρ.set i (.own []))
  | _ => False
theorem je_clr {i : Nat} {x : Str} {apos : Pos} (hn : Nm X i x) (hl : (apos.endLine == pos.line) = true) : JE X (.Call (.Attribute (.Name x p) "clear" apos) [] [] pos) (tClr i) := by
  intro σ S H ρ Q hR ht
  unfold tClr at ht
  split at ht
  · rename_i xs e
    obtain ⟨l, vs, l1, l2, l3, l4⟩ := hR.own i xs e
    refine W.of (pe_bm0 PySem.F.plainAttrs_list PySem.F.slot_list_clear PySem.F.type_list_clear mt_clear hn.pe rfl hl) ?_
    exact ⟨.ref l, l1, .inl ⟨rfl, _, SqL.of l3⟩, l, vs, rfl, rfl, l3, S, _, .none, hR.put e l1 .nil, .put hR e l1, .non, ht⟩
  · exact ht.elim
/-! ### sep.join(xs) -/
def tJoin (ta tb : VT) : VE := fun ρ Q => ta ρ fun u ρ1 => (∃ z, deref ρ1 u = some (.str z)) ∧ tb ρ1 fun w ρ2 => match deref ρ2 u, deref ρ2 w with
  | some (.str z), some (.list xs) => ∃ ys : List Str, xs = ys.map PyData.str ∧ (ys.map (·.length)).sum + ys.length * z.length ≤ 16777216 ∧ Q (.str (Txt.join z ys)) ρ2
  | _, _ => False
theorem je_join {apos : Pos} (ha : JT X a ta) (hb : JT X b tb) (hs : notStar b = true) (hba : attributeBase a "join" X.env (eval a X.env) = eval a X.env) (hl : (apos.endLine == pos.line) = true) : JE X (.Call (.Attribute a "join" apos) [b] [] pos) (tJoin ta tb) := by
  intro σ S H ρ Q hR ht
  refine W.of (pe_join peW peW (star_cons hs) hba hl) ((ha σ S H ρ _ hR ht).mono fun v H1 q => ?_)
  obtain ⟨S1, ρ1, u, R1, E1, d1, ⟨z0, e0⟩, q1⟩ := q
  refine ⟨⟨z0, d1.str e0⟩, (hb σ S1 H1 ρ1 _ R1 q1).mono fun w H2 q => ?_⟩
  obtain ⟨S2, ρ2, t, R2, E2, d2, q2⟩ := q
  split at q2
  · rename_i z xs e1 e2
    obtain ⟨ys, rfl, hz, q2⟩ := q2
    obtain ⟨p, vs, rfl, c1, c2⟩ := d2.list R2 e2
    have e := rps_strs c2
    subst e
    exact ⟨z, p, ys, ARep.str (d1.mono E2.same) e1, rfl, .inl c1, hz, S2, ρ2, _, R2, E1.trans E2, .str _, q2⟩
  · exact q2.elim
end
end WA

/-! WA6: what is walked, list comprehensions. -/
namespace WA
open PySem PySem.Spec PyProof.Rows L2

/-! ### targets -/
inductive Tg where
  | one (i : Nat)
  | two (i j : Nat)
def Tg.ix : Tg → List Nat
  | .one i => [i]
  | .two i j => [i, j]
def putT (ρ : R) : Tg → List D → Option R
  | .one i, [x] => some (ρ.set i (.v x))
  | .two i j, [x, y] => some ((ρ.set i (.v x)).set j (.v y))
  | _, _ => none
def gT (K : PySem.W.Frag) : Tg → TG
  | .one i => gName i
  | .two i j => gTup K 2 (gCons (gName i) (gCons (gName j) gNil))
/-- what a turn gives: a value, or a new pair -/
inductive ItemR (S H : Hp) : Bool → V → Hp → List D → Prop where
  | one {v : V} {d : D} : Rp S v d → ItemR S H false v H [d]
  | two {T : Addr} {ws : List V} {ds : List D} : H T = none → RpAll S ws ds → ItemR S H true (.ref T) (upd H T (.tup ws)) ds
def Tg.pair : Tg → Bool
  | .one _ => false
  | .two _ _ => true
section
variable {K : PySem.W.Frag} {B : Nat} {S H : Hp} {σ : L2.St} {ρ : R}
theorem get_set {α : Type} {l : List α} {i j : Nat} {x y : α} (h : (l.set i x)[j]? = some y) : (j = i ∧ y = x ∧ i < l.length) ∨ (j ≠ i ∧ l[j]? = some y) := by
  by_cases e : j = i
  · subst e
    by_cases hi : j < l.length
    · rw [List.getElem?_set_self hi] at h
      exact .inl ⟨rfl, (Option.some.inj h).symm, hi⟩
    · rw [List.getElem?_eq_none (by rw [List.length_set]; omega)] at h
      cases h
  · rw [List.getElem?_set_ne (fun z => e z.symm)] at h
    exact .inr ⟨e, h⟩
/-- what a slot's change leaves of the things that lean on others -/
theorem VRel.set {i : Nat} {v : Option V} {s : Sl} (h : VRel B S H σ ρ) (hi : i < B) (hs : s.leans = false) (ho : ∀ b, OwnAt (σ.set i v) (ρ.set i s) b → H b ≠ none → OwnAt σ ρ b) : VRel B S H (σ.set i v) (ρ.set i s) := by
  refine h.to (fun j t q l => ?_) (fun m hm => List.getElem?_set_ne (by omega)) (fun _ _ _ _ _ _ _ q1 q2 => ⟨q1, q2⟩) (fun d c q1 q2 n => ⟨q2, q1, fun z => n (ho d z (by rw [q1]; simp))⟩)
  rcases get_set q with ⟨rfl, q, _⟩ | ⟨n, q⟩
  · rw [q, hs] at l
    cases l
  · exact ⟨q, List.getElem?_set_ne (fun z => n z.symm)⟩
/-- a slot that owns nothing, given anew -/
theorem own_set {i : Nat} {v : Option V} {s : Sl} (hs : s.owns = false) {b : Addr} (z : OwnAt (σ.set i v) (ρ.set i s) b) : OwnAt σ ρ b := by
  obtain ⟨m, us, hm, e⟩ := z
  rcases get_set hm.1 with ⟨rfl, q', _⟩ | ⟨n', q'⟩
  · have := hm.2
    rw [q', hs] at this
    cases this
  · rw [List.getElem?_set_ne (fun z => n' z.symm)] at e
    exact ⟨m, us, ⟨q', hm.2⟩, e⟩
theorem sep_set {i : Nat} {v : Option V} {s : Sl} (hs : s.owns = false) (h : Rel K B S H σ ρ) {j k : Nat} {t u : Sl} {b : Addr} (h1 : Ow (ρ.set i s) j t) (h2 : Ow (ρ.set i s) k u) (h3 : (σ.set i v)[j]? = some (some (.ref b))) (h4 : (σ.set i v)[k]? = some (some (.ref b))) : j = k := by
  rcases get_set h1.1 with ⟨rfl, q, _⟩ | ⟨n1, q1⟩
  · have := h1.2
    rw [q, hs] at this
    cases this
  · rcases get_set h2.1 with ⟨rfl, q, _⟩ | ⟨n2, q2⟩
    · have := h2.2
      rw [q, hs] at this
      cases this
    · rw [List.getElem?_set_ne (fun z => n1 z.symm)] at h3
      rw [List.getElem?_set_ne (fun z => n2 z.symm)] at h4
      exact h.sep _ _ _ _ b ⟨q1, h1.2⟩ ⟨q2, h2.2⟩ h3 h4
/-- a slot is given a value -/
theorem Rel.setv {i : Nat} {v : V} {d : D} (h : Rel K B S H σ ρ) (hi : i < B) (hv : Rp S v d) : Rel K B S H (σ.set i (some v)) (ρ.set i (.v d)) := by
  refine ⟨by rw [List.length_set, List.length_set]; exact h.len, h.sub, fun j x hx => ?_, fun j zs hx => ?_, fun j k zs hx => ?_, fun j k s t b h1 h2 h3 h4 => sep_set rfl h h1 h2 h3 h4, h.vir.set hi rfl fun b z _ => own_set rfl z⟩
  · rcases get_set hx with ⟨rfl, q, hi⟩ | ⟨n, q⟩
    · cases q
      exact ⟨v, List.getElem?_set_self (by rw [h.len]; exact hi), hv⟩
    · obtain ⟨w, h1, h2⟩ := h.val j x q
      exact ⟨w, by rw [List.getElem?_set_ne (fun z => n z.symm)]; exact h1, h2⟩
  · rcases get_set hx with ⟨rfl, q, hi⟩ | ⟨n, q⟩
    · cases q
    · obtain ⟨b, ws, b1, b2, b3, b4⟩ := h.own j zs q
      exact ⟨b, ws, by rw [List.getElem?_set_ne (fun z => n z.symm)]; exact b1, b2, b3, b4⟩
  · rcases get_set hx with ⟨rfl, q, hi⟩ | ⟨n, q⟩
    · cases q
    · obtain ⟨b, ws, b1, b2, b3⟩ := h.ro j k zs q
      exact ⟨b, ws, by rw [List.getElem?_set_ne (fun z => n z.symm)]; exact b1, b2.to (fun o e _ => e) (fun _ z => own_set rfl z), b3⟩
theorem tgt_ok {tg : Tg} {v : V} {H' : Hp} {x : List D} {ρ1 : R} {Q : L2.St → Hp → Prop} (R : Rel K B S H σ ρ) (it : ItemR S H tg.pair v H' x) (hp : putT ρ tg x = some ρ1) (htg : ∀ i ∈ tg.ix, i < B)
    (h : ∀ σ1, Rel K B S H' σ1 ρ1 → (∀ i : Nat, i ∉ tg.ix → σ1[i]? = σ[i]?) → σ1.length = σ.length → Q σ1 H') : gT K tg v σ H' Q := by
  cases tg with
  | one i =>
    cases it with
    | one hv =>
      cases hp
      refine h _ (R.setv (htg i (by simp [Tg.ix])) hv) (fun j hj => List.getElem?_set_ne (fun z => hj (by simp [Tg.ix, z]))) (by rw [List.length_set])
  | two i j =>
    cases it with
    | two hT g =>
      match x, hp with
      | [a, b], hp =>
        cases hp
        cases g with
        | cons g1 g =>
          cases g with
          | cons g2 g =>
            cases g
            refine ⟨_, _, rfl, .of upd_same, rfl, _, _, rfl, _, _, rfl, rfl, ?_⟩
            refine h _ (((R.new0 hT).setv (htg i (by simp [Tg.ix])) g1).setv (htg j (by simp [Tg.ix])) g2) (fun k hk => ?_) (by rw [List.length_set, List.length_set])
            rw [List.getElem?_set_ne (fun z => hk (by simp [Tg.ix, z])), List.getElem?_set_ne (fun z => hk (by simp [Tg.ix, z]))]
      | [], hp => cases hp
      | [_], hp => cases hp
      | _ :: _ :: _ :: _, hp => cases hp
end

/-! ### what is walked -/
/-- the items of a walk over lists that stand at as -/
def Serves (K : PySem.W.Frag) (pr : Bool) (J : It) (as : List (Addr × List D)) (its : List (List D)) : Prop := ∀ S H : Hp, (∀ p ∈ as, ∃ vs, SqL K H p.1 vs ∧ RpAll S vs p.2) →
  J.stop its.length H ∧ ∀ (i : Nat) (x : List D), its[i]? = some x → J.go i H ∧ ∀ v H', J.yld i H v H' → ItemR S H pr v H' x
abbrev VI := R → (List (List D) → List (Nat × List D) → R → Prop) → Prop
def guardR (gs : List (Nat × List D)) (ρ : R) : Prop := ∀ p ∈ gs, deref ρ (.slot p.1) = some (.list p.2)
def Linked (S : Hp) (σ : L2.St) (gs : List (Nat × List D)) (as : List (Addr × List D)) : Prop := ∀ p ∈ as, (∃ vs, S p.1 = some (.lst vs) ∧ RpAll S vs p.2) ∨ ∃ i : Nat, (i, p.2) ∈ gs ∧ σ[i]? = some (some (.ref p.1))
theorem linked_now {K : PySem.W.Frag} {B : Nat} {S S' H' : Hp} {σ σ' : L2.St} {ρ' : R} {gs : List (Nat × List D)} {as : List (Addr × List D)} (L : Linked S σ gs as) (R : Rel K B S' H' σ' ρ') (e : Same S S') (g : guardR gs ρ') (hσ : ∀ p ∈ gs, σ'[p.1]? = σ[p.1]?) : ∀ p ∈ as, ∃ vs, SqL K H' p.1 vs ∧ RpAll S' vs p.2 := by
  intro p hp
  rcases L p hp with ⟨vs, h1, h2⟩ | ⟨i, h1, h2⟩
  · exact ⟨vs, .of (R.sub _ _ (e _ _ h1)), h2.mono e⟩
  · have r : ARep K S' σ' (.ref p.1) (.slot i) := by
      show σ'[i]? = _
      rw [hσ _ h1]
      exact h2
    obtain ⟨q, vs, e1, e2, e3⟩ := r.list R (g _ h1)
    cases e1
    exact ⟨vs, e2, e3⟩
def WIt (X : Cx) (tg iter : Expr) : TI := fun σ H Q => ∀ (pins : List (Addr × Obj)) (s : Shared), Inv X pins σ H s →
    wpAny (model X.prog X.w) X.A (eval iter X.env) (fun v s1 => wpAny (model X.prog X.w) X.A (pyIter v) (PIE X pins σ tg Q) X.xe s1) X.xe s
def PostI (X : Cx) (pr : Bool) (σ : L2.St) (S H : Hp) (ρ : R) (Q : List (List D) → List (Nat × List D) → R → Prop) : It → Hp → Prop := fun J H' => ∃ S' ρ' its gs as, Rel X.K (bd X) S' H' σ ρ' ∧ Ext σ S H ρ S' H' ρ' ∧ Serves X.K pr J as its ∧ Linked S' σ gs as ∧ Q its gs ρ'
def JI (X : Cx) (pr : Bool) (tg iter : Expr) (t : VI) : Prop := ∀ σ S H ρ Q, Rel X.K (bd X) S H σ ρ → t ρ Q → WIt X tg iter σ H (PostI X pr σ S H ρ Q)
section
variable {X : Cx} {pos p : Pos} {tg e a b : Expr} {ta tb : VT} {σ : L2.St} {S H : Hp} {ρ : R} {K : PySem.W.Frag} {B : Nat}
theorem piW {iter : Expr} : PI X tg iter (WIt X tg iter) := ⟨fun pins s _ _ _ I h => h pins s I⟩
theorem WIt.of {iter : Expr} {t : TI} {Q : It → Hp → Prop} (h : PI X tg iter t) (ht : t σ H Q) : WIt X tg iter σ H Q := fun pins s I => h.run pins s σ H Q I ht
theorem WIt.mono {iter : Expr} {Q Q' : It → Hp → Prop} (h : WIt X tg iter σ H Q) (hq : ∀ v H', Q v H' → Q' v H') : WIt X tg iter σ H Q' := fun pins s I =>
  thn (h pins s I) fun _ _ h1 => thn h1 fun _ _ ⟨it, fp, tn, J, H', e1, I', T, t0, f, q⟩ => ⟨it, fp, tn, J, H', e1, I', T, t0, f, hq J H' q⟩
/-- an operand's place and its guard -/
def gsOf (u : AV) (xs : List D) : List (Nat × List D) := match u with
  | .val _ => []
  | .slot i => [(i, xs)]
theorem linked_of {v : V} {u : AV} {xs : List D} (R : Rel K B S H σ ρ) (d : ARep K S σ v u) (e : deref ρ u = some (.list xs)) : ∃ q, v = .ref q ∧ Linked S σ (gsOf u xs) [(q, xs)] ∧ ∃ vs, SqL K H q vs ∧ RpAll S vs xs := by
  obtain ⟨q, vs, rfl, e2, e3⟩ := d.list R e
  refine ⟨q, rfl, fun p hp => ?_, vs, e2, e3⟩
  have hp : p = (q, xs) := by simpa using hp
  subst hp
  cases u with
  | val x =>
    cases e
    have d : Rp S (.ref q) (.list xs) := d
    cases d with
    | lst h1 h2 => exact .inl ⟨_, h1, h2⟩
  | slot i => exact .inr ⟨i, by simp [gsOf], d⟩
/-! lists, tuples, texts -/
def tIt (ta : VT) : VI := fun ρ Q => ta ρ fun u ρ1 => match deref ρ1 u with
  | some (.list xs) => Q (xs.map fun x => [x]) (gsOf u xs) ρ1
  | _ => False
theorem serves_list {q : Addr} {xs : List D} : Serves K false (Itl K q) [(q, xs)] (xs.map fun x => [x]) := by
  intro S H h
  obtain ⟨vs, h1, h2⟩ := h (q, xs) (by simp)
  refine ⟨⟨vs, h1, by rw [List.length_map, rps_len h2]; exact Nat.le_refl _⟩, fun i x hx => ?_⟩
  rw [List.getElem?_map] at hx
  cases hd : xs[i]? with
  | none => rw [hd] at hx; cases hx
  | some d =>
    rw [hd] at hx
    cases hx
    obtain ⟨v, hv, hr⟩ := rps_get h2 hd
    refine ⟨⟨vs, v, h1, hv⟩, fun w H' y => ?_⟩
    obtain ⟨rfl, y⟩ := y
    have e := (y vs h1).symm.trans hv
    cases e
    exact .one hr
theorem ji_list (ha : JT X a ta) : JI X false tg a (tIt ta) := by
  intro σ S H ρ Q hR ht
  refine WIt.of (pi_list peW) ((ha σ S H ρ _ hR ht).mono fun v H1 q => ?_)
  obtain ⟨S1, ρ1, u, R1, E1, d1, q1⟩ := q
  split at q1
  · rename_i xs e
    obtain ⟨q, rfl, L, vs, h1, h2⟩ := linked_of R1 d1 e
    exact ⟨q, rfl, ⟨vs, h1⟩, S1, ρ1, _, _, _, R1, E1, serves_list, L, q1⟩
  · exact q1.elim
def tItS (ta : VT) : VI := fun ρ Q => ta ρ fun u ρ1 => match deref ρ1 u with
  | some (.str z) => Q (z.cps.toList.map fun c => [PyData.str ⟨#[c]⟩]) [] ρ1
  | _ => False
theorem serves_str {z : Str} : Serves K false (Its z) [] (z.cps.toList.map fun c => [PyData.str ⟨#[c]⟩]) := by
  intro S H _
  refine ⟨by rw [List.length_map, Array.length_toList]; exact Nat.le_refl _, fun i x hx => ?_⟩
  rw [List.getElem?_map] at hx
  cases hd : z.cps.toList[i]? with
  | none => rw [hd] at hx; cases hx
  | some c =>
    rw [hd] at hx
    cases hx
    have hd' : z.cps[i]? = some c := by rw [← Array.getElem?_toList]; exact hd
    refine ⟨(Array.getElem?_eq_some_iff.mp hd').1, fun w H' y => ?_⟩
    obtain ⟨rfl, c', h1, rfl⟩ := y
    rw [hd'] at h1
    cases h1
    exact .one (.str _)
theorem ji_str (ha : JT X a ta) : JI X false tg a (tItS ta) := by
  intro σ S H ρ Q hR ht
  refine WIt.of (pi_str peW) ((ha σ S H ρ _ hR ht).mono fun v H1 q => ?_)
  obtain ⟨S1, ρ1, u, R1, E1, d1, q1⟩ := q
  split at q1
  · rename_i z e
    exact ⟨z, d1.str e, S1, ρ1, _, _, _, R1, E1, serves_str, fun p hp => absurd hp (by simp), q1⟩
  · exact q1.elim
/-! range -/
def rangeD (lo : Int) (n : Nat) : List (List D) := (List.range n).map fun i => [PyData.int (lo + (i : Nat))]
theorem serves_range {lo : Int} {n : Nat} : Serves K false (Itr lo n) [] (rangeD lo n) := by
  intro S H _
  refine ⟨by rw [rangeD, List.length_map, List.length_range]; exact Nat.le_refl _, fun i x hx => ?_⟩
  rw [rangeD, List.getElem?_map] at hx
  by_cases hi : i < n
  · rw [List.getElem?_range hi] at hx
    cases hx
    refine ⟨hi, fun w H' y => ?_⟩
    obtain ⟨rfl, rfl⟩ := y
    exact .one (.int _)
  · rw [List.getElem?_eq_none (by rw [List.length_range]; omega)] at hx
    cases hx
def tRng1 (ta : VT) : VI := fun ρ Q => ta ρ fun u ρ1 => match deref ρ1 u with
  | some (.int j) => -(2 ^ 62) ≤ j ∧ j < 2 ^ 62 ∧ Q (rangeD 0 j.toNat) [] ρ1
  | _ => False
theorem ji_rng1 (hg : Gl X "range") (hm : X.mg "range" = none) (ha : JT X a ta) (hs : notStar a = true) : JI X false tg (.Call (.Name "range" p) [a] [] pos) (tRng1 ta) := by
  intro σ S H ρ Q hR ht
  refine WIt.of (pi_range1 hg hm (pa_cons peW pa_nil (star_cons hs)) (star_cons hs)) ((ha σ S H ρ _ hR ht).mono fun v H1 q => ?_)
  obtain ⟨S1, ρ1, u, R1, E1, d1, q1⟩ := q
  split at q1
  · rename_i j e
    exact ⟨j, by rw [d1.int e], q1.1, q1.2.1, S1, ρ1, _, _, _, R1, E1, serves_range, fun p hp => absurd hp (by simp), q1.2.2⟩
  · exact q1.elim
def tRng2 (ta tb : VT) : VI := fun ρ Q => ta ρ fun u ρ1 => tb ρ1 fun w ρ2 => match deref ρ2 u, deref ρ2 w with
  | some (.int i), some (.int j) => (-(2 ^ 62) ≤ i ∧ i < 2 ^ 62 ∧ -(2 ^ 62) ≤ j ∧ j < 2 ^ 62) ∧ Q (rangeD i (j - i).toNat) [] ρ2
  | _, _ => False
theorem ji_rng2 (hg : Gl X "range") (hm : X.mg "range" = none) (ha : JT X a ta) (hb : JT X b tb) (hs : notStar a = true) (hs2 : notStar b = true) : JI X false tg (.Call (.Name "range" p) [a, b] [] pos) (tRng2 ta tb) := by
  intro σ S H ρ Q hR ht
  have e1 : starEach [a, b] X.env = [(false, eval a X.env), (false, eval b X.env)] := by rw [star_cons hs, star_cons hs2]; rfl
  refine WIt.of (pi_range2 hg hm (pa_cons peW (pa_cons peW pa_nil (star_cons hs2)) (star_cons hs)) e1 (star_cons hs2)) (two hR ha hb ht fun v w H2 S2 ρ2 u z R2 E d1 d2 q => ?_)
  split at q
  · rename_i i j e1 e2
    exact ⟨i, j, by rw [d1.int e1, d2.int e2], q.1, S2, ρ2, _, _, _, R2, E, serves_range, fun p hp => absurd hp (by simp), q.2⟩
  · exact q.elim
/-! enumerate, zip of lists -/
def enumD (xs : List D) : List (List D) := (List.range xs.length).map fun i => [PyData.int (i : Nat), xs.getD i .none]
theorem serves_enum {q : Addr} {xs : List D} : Serves K true (Ite K q) [(q, xs)] (enumD xs) := by
  intro S H h
  obtain ⟨vs, h1, h2⟩ := h (q, xs) (by simp)
  refine ⟨⟨vs, h1, by rw [enumD, List.length_map, List.length_range, rps_len h2]; exact Nat.le_refl _⟩, fun i x hx => ?_⟩
  rw [enumD, List.getElem?_map] at hx
  by_cases hi : i < xs.length
  · rw [List.getElem?_range hi] at hx
    cases hx
    have hd : xs[i]? = some (xs.getD i .none) := by rw [List.getElem?_eq_getElem hi, List.getD_eq_getElem?_getD, List.getElem?_eq_getElem hi]; rfl
    obtain ⟨v, hv, hr⟩ := rps_get h2 hd
    refine ⟨⟨vs, v, h1, hv⟩, fun w H' y => ?_⟩
    obtain ⟨T, z, rfl, hT, rfl, hz⟩ := y
    have e := (hz vs h1).symm.trans hv
    cases e
    exact .two hT (.cons (.int _) (.cons hr .nil))
  · rw [List.getElem?_eq_none (by rw [List.length_range]; omega)] at hx
    cases hx
def tEnum (ta : VT) : VI := fun ρ Q => ta ρ fun u ρ1 => match deref ρ1 u with
  | some (.list xs) => Q (enumD xs) (gsOf u xs) ρ1
  | _ => False
theorem ji_enum {elts : List Expr} {kk : Nat} {tpos : Pos} (hg : Gl X "enumerate") (hm : X.mg "enumerate" = none) (ha : JT X a ta) (hs : notStar a = true) : JI X true (.Tuple elts kk tpos) (.Call (.Name "enumerate" p) [a] [] pos) (tEnum ta) := by
  intro σ S H ρ Q hR ht
  refine WIt.of (pi_enum hg hm (pa_cons peW pa_nil (star_cons hs)) (star_cons hs)) ((ha σ S H ρ _ hR ht).mono fun v H1 q => ?_)
  obtain ⟨S1, ρ1, u, R1, E1, d1, q1⟩ := q
  split at q1
  · rename_i xs e
    obtain ⟨q, rfl, L, vs, h1, h2⟩ := linked_of R1 d1 e
    exact ⟨q, vs, rfl, h1, S1, ρ1, _, _, _, R1, E1, serves_enum, L, q1⟩
  · exact q1.elim
def zipD (xs ys : List D) : List (List D) := (xs.zip ys).map fun p => [p.1, p.2]
theorem serves_zip {q r : Addr} {xs ys : List D} : Serves K true (Itz K q r) [(q, xs), (r, ys)] (zipD xs ys) := by
  intro S H h
  obtain ⟨vs, h1, h2⟩ := h (q, xs) (by simp)
  obtain ⟨ws, g1, g2⟩ := h (r, ys) (by simp)
  refine ⟨⟨vs, ws, h1, g1, ?_⟩, fun i x hx => ?_⟩
  · have l1 : vs.length = xs.length := rps_len h2
    have l2 : ws.length = ys.length := rps_len g2
    rw [zipD, List.length_map, List.length_zip]
    omega
  · rw [zipD, List.getElem?_map] at hx
    cases hz : (xs.zip ys)[i]? with
    | none => rw [hz] at hx; cases hx
    | some pr =>
      rw [hz] at hx
      cases hx
      obtain ⟨hx, hy⟩ := List.getElem?_zip_eq_some.mp hz
      obtain ⟨v, hv, hr⟩ := rps_get h2 hx
      obtain ⟨w, hw, hr'⟩ := rps_get g2 hy
      refine ⟨⟨vs, ws, v, w, h1, g1, hv, hw⟩, fun u H' y => ?_⟩
      obtain ⟨T, x1, y1, rfl, hT, rfl, hz1, hz2⟩ := y
      have e := (hz1 vs h1).symm.trans hv
      cases e
      have e := (hz2 ws g1).symm.trans hw
      cases e
      exact .two hT (.cons hr (.cons hr' .nil))
def tZip (ta tb : VT) : VI := fun ρ Q => ta ρ fun u ρ1 => tb ρ1 fun w ρ2 => match deref ρ2 u, deref ρ2 w with
  | some (.list xs), some (.list ys) => Q (zipD xs ys) (gsOf u xs ++ gsOf w ys) ρ2
  | _, _ => False
theorem linked_app {gs gs' : List (Nat × List D)} {as as' : List (Addr × List D)} (h : Linked S σ gs as) (h' : Linked S σ gs' as') : Linked S σ (gs ++ gs') (as ++ as') := by
  intro p hp
  rcases List.mem_append.mp hp with q | q
  · rcases h p q with z | ⟨i, z1, z2⟩
    · exact .inl z
    · exact .inr ⟨i, List.mem_append_left _ z1, z2⟩
  · rcases h' p q with z | ⟨i, z1, z2⟩
    · exact .inl z
    · exact .inr ⟨i, List.mem_append_right _ z1, z2⟩
theorem ji_zip {elts : List Expr} {kk : Nat} {tpos : Pos} (hg : Gl X "zip") (hm : X.mg "zip" = none) (ha : JT X a ta) (hb : JT X b tb) (hs : notStar a = true) (hs2 : notStar b = true) : JI X true (.Tuple elts kk tpos) (.Call (.Name "zip" p) [a, b] [] pos) (tZip ta tb) := by
  intro σ S H ρ Q hR ht
  refine WIt.of (pi_zip hg hm (pa_cons peW (pa_cons peW pa_nil (star_cons hs2)) (star_cons hs)) (star_cons hs) (star_none (by simp [hs2]))) (two hR ha hb ht fun v w H2 S2 ρ2 u z R2 E d1 d2 q => ?_)
  split at q
  · rename_i xs ys e1 e2
    obtain ⟨q1, rfl, L1, vs, h1, h2⟩ := linked_of R2 d1 e1
    obtain ⟨q2, rfl, L2, ws, g1, g2⟩ := linked_of R2 d2 e2
    exact ⟨q1, q2, vs, ws, rfl, h1, g1, S2, ρ2, _, _, [(q1, xs), (q2, ys)], R2, E, serves_zip, linked_app L1 L2, q⟩
  · exact q.elim
end
end WA

/-! WA7: list comprehensions. -/
namespace WA
open PySem PySem.Spec PyProof.Rows L2

def wipeR (ρ : R) : List Nat → R
  | [] => ρ
  | v :: vs => (wipeR ρ vs).set v .no
def backR (ρ ρ' : R) : List Nat → R
  | [] => ρ'
  | v :: vs => (backR ρ ρ' vs).set v (ρ.getD v .no)
/-- slots that may be lent to a comprehension -/
def lent (ρ : R) (vs : List Nat) : Bool := vs.all fun i => match ρ[i]? with
  | some .no => true
  | some (.v _) => true
  | _ => false
theorem wipeR_len (ρ : R) : ∀ vs : List Nat, (wipeR ρ vs).length = ρ.length
  | [] => rfl
  | v :: vs => by unfold wipeR; rw [List.length_set, wipeR_len ρ vs]
theorem backR_len (ρ ρ' : R) : ∀ vs : List Nat, (backR ρ ρ' vs).length = ρ'.length
  | [] => rfl
  | v :: vs => by unfold backR; rw [List.length_set, backR_len ρ ρ' vs]
theorem wipeR_out {ρ : R} {i : Nat} : ∀ {vs : List Nat}, i ∉ vs → (wipeR ρ vs)[i]? = ρ[i]?
  | [], _ => rfl
  | v :: vs, h => by
    unfold wipeR
    rw [List.getElem?_set_ne (fun z => h (by simp [z])), wipeR_out (fun z => h (List.mem_cons_of_mem _ z))]
theorem wipeR_in {ρ : R} {i : Nat} {x : Sl} : ∀ {vs : List Nat}, (wipeR ρ vs)[i]? = some x → i ∈ vs → x = .no
  | v :: vs, h, hm => by
    unfold wipeR at h
    rcases get_set h with ⟨_, q, _⟩ | ⟨n, q⟩
    · exact q
    · rcases List.mem_cons.mp hm with z | z
      · exact absurd z n
      · exact wipeR_in q z
theorem wipe_out2 {σ : L2.St} {i : Nat} : ∀ {vs : List Nat}, i ∉ vs → (wipe σ vs)[i]? = σ[i]?
  | [], _ => rfl
  | v :: vs, h => by
    unfold wipe
    rw [List.getElem?_set_ne (fun z => h (by simp [z])), wipe_out2 (fun z => h (List.mem_cons_of_mem _ z))]
theorem backR_out {ρ ρ' : R} {i : Nat} : ∀ {vs : List Nat}, i ∉ vs → (backR ρ ρ' vs)[i]? = ρ'[i]?
  | [], _ => rfl
  | v :: vs, h => by
    unfold backR
    rw [List.getElem?_set_ne (fun z => h (by simp [z])), backR_out (fun z => h (List.mem_cons_of_mem _ z))]
theorem backR_in {ρ ρ' : R} {i : Nat} (hl : ρ.length = ρ'.length) : ∀ {vs : List Nat}, i ∈ vs → (backR ρ ρ' vs)[i]? = ρ[i]?
  | v :: vs, h => by
    unfold backR
    by_cases e : i = v
    · subst e
      by_cases hi : i < ρ.length
      · rw [List.getElem?_set_self (by rw [backR_len, ← hl]; exact hi), List.getD_eq_getElem?_getD, List.getElem?_eq_getElem hi]
        rfl
      · rw [List.getElem?_eq_none (by rw [List.length_set, backR_len, ← hl]; omega), List.getElem?_eq_none (by omega)]
    · rw [List.getElem?_set_ne (fun z => e z.symm)]
      rcases List.mem_cons.mp h with z | z
      · exact absurd z e
      · exact backR_in hl z
section
variable {K : PySem.W.Frag} {B : Nat} {S H S1 H1 S2 H2 : Hp} {σ : L2.St} {ρ ρ1 ρ2 : R} {vs : List Nat}
theorem lent_at (h : lent ρ vs = true) {i : Nat} (hi : i ∈ vs) : ρ[i]? = some .no ∨ ∃ x, ρ[i]? = some (.v x) := by
  have q := List.all_eq_true.mp h i hi
  split at q
  · exact .inl (by assumption)
  · exact .inr ⟨_, by assumption⟩
  · cases q
/-- a comprehension's block begins -/
theorem Rel.wipe (h : Rel K B S H σ ρ) (vs : List Nat) (hv : ∀ i ∈ vs, i < B) : Rel K B S H (L2.wipe σ vs) (wipeR ρ vs) := by
  have out : ∀ {i : Nat} {x : Sl}, (wipeR ρ vs)[i]? = some x → x ≠ .no → i ∉ vs ∧ ρ[i]? = some x := fun {i x} hx n => by
    have hi : i ∉ vs := fun z => n (wipeR_in hx z)
    exact ⟨hi, by rw [wipeR_out hi] at hx; exact hx⟩
  have oa : ∀ {b : Addr}, OwnAt (L2.wipe σ vs) (wipeR ρ vs) b → OwnAt σ ρ b := fun {b} ⟨m, us, hm, e⟩ => by
    obtain ⟨n', q'⟩ := out hm.1 (fun z => by have := hm.2; rw [z] at this; cases this)
    rw [wipe_out2 n'] at e
    exact ⟨m, us, ⟨q', hm.2⟩, e⟩
  refine ⟨by rw [wipe_length, wipeR_len]; exact h.len, h.sub, fun j x hx => ?_, fun j zs hx => ?_, fun j k zs hx => ?_, fun j k s t b h1 h2 h3 h4 => ?_, ?_⟩
  · obtain ⟨n, q⟩ := out hx (fun z => by cases z)
    rw [wipe_out2 n]
    exact h.val j x q
  · obtain ⟨n, q⟩ := out hx (fun z => by cases z)
    rw [wipe_out2 n]
    exact h.own j zs q
  · obtain ⟨n, q⟩ := out hx (fun z => by cases z)
    obtain ⟨b, ws, b1, b2, b3⟩ := h.ro j k zs q
    refine ⟨b, ws, by rw [wipe_out2 n]; exact b1, b2.to (fun o e _ => e) (fun _ z => oa z), b3⟩
  · obtain ⟨n1, q1⟩ := out h1.1 (fun z => by have := h1.2; rw [z] at this; cases this)
    obtain ⟨n2, q2⟩ := out h2.1 (fun z => by have := h2.2; rw [z] at this; cases this)
    rw [wipe_out2 n1] at h3
    rw [wipe_out2 n2] at h4
    exact h.sep _ _ _ _ b ⟨q1, h1.2⟩ ⟨q2, h2.2⟩ h3 h4
  · refine h.vir.to (fun j s q l => ?_) (fun m hm => wipe_out2 fun z => absurd (hv m z) (by omega)) (fun _ _ _ _ _ _ _ q1 q2 => ⟨q1, q2⟩) (fun d c q1 q2 n => ⟨q2, q1, fun z => n (oa z)⟩)
    obtain ⟨n, q⟩ := out q (fun z => by rw [z] at l; cases l)
    exact ⟨q, wipe_out2 n⟩
theorem wipe_own (h : lent ρ vs = true) {b : Addr} : OwnAt (L2.wipe σ vs) (wipeR ρ vs) b ↔ OwnAt σ ρ b := by
  constructor
  · rintro ⟨i, s, ⟨h1, ho⟩, h2⟩
    have hi : i ∉ vs := fun z => by
      rw [wipeR_in h1 z] at ho
      cases ho
    rw [wipeR_out hi] at h1
    rw [wipe_out2 hi] at h2
    exact ⟨i, s, ⟨h1, ho⟩, h2⟩
  · rintro ⟨i, s, ⟨h1, ho⟩, h2⟩
    have hi : i ∉ vs := fun z => by
      rcases lent_at h z with q | ⟨x, q⟩ <;> (rw [q] at h1; cases h1; cases ho)
    exact ⟨i, s, ⟨by rw [wipeR_out hi]; exact h1, ho⟩, by rw [wipe_out2 hi]; exact h2⟩
/-- and ends -/
theorem Rel.back (h : Rel K B S1 H1 σ ρ) (hv : ∀ i ∈ vs, i < B) (hl : lent ρ vs = true) (E : Ext (L2.wipe σ vs) S1 H1 (wipeR ρ vs) S2 H2 ρ2) (h2 : Rel K B S2 H2 (L2.wipe σ vs) ρ2) : Rel K B S2 H2 σ (backR ρ ρ2 vs) := by
  have len : ρ.length = ρ2.length := by
    rw [← h2.len, wipe_length]
    exact h.len.symm
  have inn : ∀ {i : Nat} {x : Sl}, (backR ρ ρ2 vs)[i]? = some x → i ∈ vs → ρ[i]? = some x ∧ (x = .no ∨ ∃ d, x = .v d) := fun {i x} hx hi => by
    rw [backR_in len hi] at hx
    refine ⟨hx, ?_⟩
    rcases lent_at hl hi with q | ⟨d, q⟩
    · rw [q] at hx; cases hx; exact .inl rfl
    · rw [q] at hx; cases hx; exact .inr ⟨d, rfl⟩
  have out : ∀ {i : Nat} {x : Sl}, (backR ρ ρ2 vs)[i]? = some x → x ≠ .no → (∀ d, x ≠ .v d) → i ∉ vs ∧ ρ2[i]? = some x := fun {i x} hx n n' => by
    have hi : i ∉ vs := fun z => by
      rcases (inn hx z).2 with q | ⟨d, q⟩
      · exact n q
      · exact n' d q
    exact ⟨hi, by rw [backR_out hi] at hx; exact hx⟩
  have oa : ∀ {b : Addr}, OwnAt σ (backR ρ ρ2 vs) b → OwnAt (L2.wipe σ vs) ρ2 b := fun {b} ⟨m, us, hm, e⟩ => by
    obtain ⟨n', q'⟩ := out hm.1 (fun z => by have := hm.2; rw [z] at this; cases this) (fun d z => by have := hm.2; rw [z] at this; cases this)
    exact ⟨m, us, ⟨q', hm.2⟩, by rw [wipe_out2 n']; exact e⟩
  refine ⟨by rw [backR_len, ← len]; exact h.len, h2.sub, fun j x hx => ?_, fun j zs hx => ?_, fun j k zs hx => ?_, fun j k s t b g1 g2 g3 g4 => ?_, ?_⟩
  · by_cases hi : j ∈ vs
    · obtain ⟨w, a, b⟩ := h.val j x (inn hx hi).1
      exact ⟨w, a, b.mono E.same⟩
    · rw [backR_out hi] at hx
      obtain ⟨w, a, b⟩ := h2.val j x hx
      rw [wipe_out2 hi] at a
      exact ⟨w, a, b⟩
  · obtain ⟨n, q⟩ := out hx (fun z => by cases z) (fun d z => by cases z)
    obtain ⟨b, ws, b1, r⟩ := h2.own j zs q
    rw [wipe_out2 n] at b1
    exact ⟨b, ws, b1, r⟩
  · obtain ⟨n, q⟩ := out hx (fun z => by cases z) (fun d z => by cases z)
    obtain ⟨b, ws, b1, b2, b3⟩ := h2.ro j k zs q
    rw [wipe_out2 n] at b1
    exact ⟨b, ws, b1, b2.to (fun o e _ => e) (fun _ z => oa z), b3⟩
  · obtain ⟨n1, q1⟩ := out g1.1 (fun z => by have := g1.2; rw [z] at this; cases this) (fun d z => by have := g1.2; rw [z] at this; cases this)
    obtain ⟨n2, q2⟩ := out g2.1 (fun z => by have := g2.2; rw [z] at this; cases this) (fun d z => by have := g2.2; rw [z] at this; cases this)
    exact h2.sep _ _ _ _ b ⟨q1, g1.2⟩ ⟨q2, g2.2⟩ (by rw [wipe_out2 n1]; exact g3) (by rw [wipe_out2 n2]; exact g4)
  · refine h2.vir.to (fun j s q l => ?_) (fun m hm => (wipe_out2 fun z => absurd (hv m z) (by omega)).symm) (fun _ _ _ _ _ _ _ q1 q2 => ⟨q1, q2⟩) (fun d c q1 q2 n => ⟨q2, q1, fun z => n (oa z)⟩)
    obtain ⟨n, q⟩ := out q (fun z => by rw [z] at l; cases l) (fun d z => by rw [z] at l; cases l)
    exact ⟨q, (wipe_out2 n).symm⟩
theorem Ext.back (h : Rel K B S1 H1 σ ρ) (hl : lent ρ vs = true) (E : Ext (L2.wipe σ vs) S1 H1 (wipeR ρ vs) S2 H2 ρ2) (len : ρ.length = ρ2.length) : Ext σ S1 H1 ρ S2 H2 (backR ρ ρ2 vs) := by
  refine ⟨E.same, E.there, E.stay, fun b o hb hs n => E.keep b o hb hs (fun z => n ((wipe_own hl).mp z)), fun i => ?_, fun i n => ?_⟩
  · by_cases hi : i ∈ vs
    · rw [backR_in len hi]
    · rw [backR_out hi, ← E.kind i, wipeR_out hi]
  · by_cases hi : i ∈ vs
    · rw [backR_in len hi]
    · rw [backR_out hi]
      have := E.oth i (fun xs q => n xs (by rw [wipeR_out hi] at q; exact q))
      rw [this, wipeR_out hi]
/-- a place that is no place of ours is written, new since ρ -/
theorem Rel.redo {D : Addr} {o : HO} {us : List V} (R0 : Rel K B S1 H1 σ ρ1) (E : Ext σ S1 H1 ρ1 S2 H2 ρ2) (R : Rel K B S2 H2 σ ρ2) (h0 : H1 D = none) (hS : S2 D = none) (hL : H2 D = some (.lst us)) : Rel K B S2 (upd H2 D o) σ ρ2 := by
  have nD : ¬ OwnAt σ ρ2 D := fun z => own_new R0 h0 (E.at.mpr z)
  refine ⟨R.len, fun b x e => ?_, R.val, fun j zs hx => ?_, fun j k zs hx => ?_, R.sep, R.vir.to (fun _ _ q _ => ⟨q, rfl⟩) (fun _ _ => rfl) (fun i k is a u q1 q2 q3 q4 => ⟨q3, by rw [upd_ne (fun z => nD ⟨i, _, ⟨q1, rfl⟩, by rw [← z]; exact q2⟩)]; exact q4⟩) (fun d c q1 q2 n => ⟨q2, by rw [upd_ne (fun z => by rw [z, hL] at q1; cases q1)]; exact q1, n⟩)⟩
  · rw [upd_ne (ne_of_none e hS)]
    exact R.sub _ _ e
  · obtain ⟨b, ws, b1, b2, b3, b4⟩ := R.own j zs hx
    exact ⟨b, ws, b1, b2, by rw [upd_ne (fun z => nD ⟨j, _, ow hx, by rw [← z]; exact b1⟩)]; exact b3, b4⟩
  · have no : ∀ ys, ρ1[j]? ≠ some (.own ys) := fun ys q => by
      obtain ⟨zs', q'⟩ := (E.kind j).mp ⟨ys, q⟩
      rw [hx] at q'
      cases q'
    have e1 : ρ1[j]? = some (.ro k zs) := by rw [← E.oth j no]; exact hx
    obtain ⟨b, ws, b1, b2, b3⟩ := R0.ro j k zs e1
    refine ⟨b, ws, b1, b2.to (fun o' q nb => ?_) (fun _ z => E.at.mpr z), b3.mono E.same⟩
    have hb : b ≠ D := fun z => by rw [z, h0] at q; cases q
    rw [upd_ne hb]
    cases hs : S1 b with
    | none => exact E.keep b o' q hs nb
    | some o2 =>
      have e2 := R0.sub _ _ hs
      rw [q] at e2
      cases e2
      exact R.sub _ _ (E.same _ _ hs)
theorem Ext.redo {D : Addr} {o : HO} (E : Ext σ S1 H1 ρ1 S2 H2 ρ2) (h0 : H1 D = none) : Ext σ S1 H1 ρ1 S2 (upd H2 D o) ρ2 := by
  have nb : ∀ b, H1 b ≠ none → b ≠ D := fun b h z => h (by rw [z]; exact h0)
  refine ⟨E.same, fun b h => by rw [upd_ne (nb b h)]; exact E.there b h, E.stay, fun b o hb hs n => ?_, E.kind, E.oth⟩
  rw [upd_ne (nb b (by rw [hb]; simp))]
  exact E.keep b o hb hs n
theorem Rel.redo' {D : Addr} {o : HO} {us : List V} (R : Rel K B S2 H2 σ ρ2) (R0 : Rel K B S1 H1 σ ρ1) (E : Ext σ S1 H1 ρ1 S2 H2 ρ2) (h0 : H1 D = none) (hS : S2 D = none) (hL : H2 D = some (.lst us)) : Rel K B S2 (upd H2 D o) σ ρ2 := R0.redo E R h0 hS hL
/-- after a turn: the block's own slots are forgotten -/
theorem Rel.wiped (h : Rel K B S H σ ρ) (vs : List Nat) (hv : ∀ i ∈ vs, i < B) : Rel K B S H (L2.wipe σ vs) (wipeR ρ vs) := h.wipe vs hv
theorem wipe_agree {σ σ' : L2.St} {vs : List Nat} (hl : σ.length = σ'.length) (h : ∀ i : Nat, i ∉ vs → σ[i]? = σ'[i]?) : L2.wipe σ vs = L2.wipe σ' vs := by
  refine List.ext_getElem? fun i => ?_
  by_cases hi : i ∈ vs
  · have inn : ∀ {τ : L2.St} {ws : List Nat}, i ∈ ws → i < τ.length → (L2.wipe τ ws)[i]? = some none := fun {τ ws} => by
      induction ws with
      | nil => intro h; cases h
      | cons w ws ih =>
        intro hm hl
        unfold L2.wipe
        by_cases e : i = w
        · subst e
          rw [List.getElem?_set_self (by rw [wipe_length]; exact hl)]
        · rw [List.getElem?_set_ne (fun z => e z.symm)]
          rcases List.mem_cons.mp hm with z | z
          · exact absurd z e
          · exact ih z hl
    by_cases hlt : i < σ.length
    · rw [inn hi hlt, inn hi (by rw [← hl]; exact hlt)]
    · rw [List.getElem?_eq_none (by rw [wipe_length]; omega), List.getElem?_eq_none (by rw [wipe_length]; omega)]
  · rw [wipe_out2 hi, wipe_out2 hi]
    exact h i hi
theorem wipeR_at {ρ : R} {i : Nat} : ∀ {vs : List Nat}, i ∈ vs → i < ρ.length → (wipeR ρ vs)[i]? = some .no
  | v :: vs, hm, hl => by
    unfold wipeR
    by_cases e : i = v
    · subst e
      rw [List.getElem?_set_self (by rw [wipeR_len]; exact hl)]
    · rw [List.getElem?_set_ne (fun z => e z.symm)]
      rcases List.mem_cons.mp hm with z | z
      · exact absurd z e
      · exact wipeR_at z hl
theorem putT_out {ρ ρ1 : R} {tg : Tg} {x : List D} (h : putT ρ tg x = some ρ1) : ρ1.length = ρ.length ∧ (∀ i : Nat, i ∉ tg.ix → ρ1[i]? = ρ[i]?) ∧ ∀ (i : Nat) (s : Sl), i ∈ tg.ix → ρ1[i]? = some s → s.owns = false := by
  cases tg with
  | one k =>
    match x, h with
    | [a], h =>
      cases h
      refine ⟨by rw [List.length_set], fun i hi => List.getElem?_set_ne (fun z => hi (by simp [Tg.ix, z])), fun i xs hi q => ?_⟩
      have e : i = k := by simpa [Tg.ix] using hi
      subst e
      rcases get_set q with ⟨_, z, _⟩ | ⟨n, _⟩
      · rw [z]; rfl
      · exact absurd rfl n
    | [], h => cases h
    | _ :: _ :: _, h => cases h
  | two k l =>
    match x, h with
    | [a, b], h =>
      cases h
      refine ⟨by rw [List.length_set, List.length_set], fun i hi => ?_, fun i xs hi q => ?_⟩
      · rw [List.getElem?_set_ne (fun z => hi (by simp [Tg.ix, z])), List.getElem?_set_ne (fun z => hi (by simp [Tg.ix, z]))]
      · have e : i = k ∨ i = l := by simpa [Tg.ix] using hi
        rcases get_set q with ⟨_, z, _⟩ | ⟨n, q⟩
        · rw [z]; rfl
        · rcases get_set q with ⟨_, z, _⟩ | ⟨n', _⟩
          · rw [z]; rfl
          · rcases e with e | e
            · exact absurd e n'
            · exact absurd e n
    | [], h => cases h
    | [_], h => cases h
    | _ :: _ :: _ :: _, h => cases h
/-- behind a turn of a block -/
theorem Ext.turn {σw σ1 : L2.St} {ρ' ρp ρ3 : R} {S3 H3 : Hp} (hw : ∀ i : Nat, i ∉ vs → σ1[i]? = σw[i]?) (hno : ∀ i ∈ vs, ρ'[i]? = some .no) (ho : ∀ i : Nat, i ∉ vs → ρp[i]? = ρ'[i]?) (hp : ∀ (i : Nat) (s : Sl), i ∈ vs → ρp[i]? = some s → s.owns = false) (hl : ρ3.length = ρ'.length)
    (E : Ext σ1 S H ρp S3 H3 ρ3) : Ext σw S H ρ' S3 H3 (wipeR ρ3 vs) := by
  have own : ∀ {b : Addr}, OwnAt σ1 ρp b → OwnAt σw ρ' b := fun {b} ⟨i, s, h1, h2⟩ => by
    have hi : i ∉ vs := fun z => by
      have := hp i s z h1.1
      rw [h1.2] at this
      cases this
    exact ⟨i, s, ⟨by rw [← ho i hi]; exact h1.1, h1.2⟩, by rw [← hw i hi]; exact h2⟩
  refine ⟨E.same, E.there, E.stay, fun b o hb hs n => E.keep b o hb hs fun z => n (own z), fun i => ?_, fun i n => ?_⟩
  · by_cases hi : i ∈ vs
    · constructor
      · rintro ⟨xs, q⟩
        rw [hno i hi] at q
        cases q
      · rintro ⟨xs, q⟩
        cases wipeR_in q hi
    · rw [wipeR_out hi, ← ho i hi]
      exact E.kind i
  · by_cases hi : i ∈ vs
    · have hlt : i < ρ'.length := (List.getElem?_eq_some_iff.mp (hno i hi)).1
      rw [hno i hi, wipeR_at hi (by rw [hl]; exact hlt)]
    · rw [wipeR_out hi, ← ho i hi]
      exact E.oth i fun xs q => n xs (by rw [← ho i hi]; exact q)
end

/-! ### the rule -/
def lcLoop (tg : Tg) (gs : List (Nat × List D)) (c : VC) (e : VT) : List (List D) → List D → R → (List D → R → Prop) → Prop
  | [], acc, ρ, Q => guardR gs ρ ∧ Q acc ρ
  | x :: xs, acc, ρ, Q => guardR gs ρ ∧ match putT ρ tg x with
    | some ρ1 => c ρ1 fun b ρ2 => if b = true then e ρ2 fun y ρ3 => (match y with
        | .val d => acc.length < sizeLine ∧ lcLoop tg gs c e xs (acc ++ [d]) (wipeR ρ3 tg.ix) Q
        | _ => False) else lcLoop tg gs c e xs acc (wipeR ρ2 tg.ix) Q
    | none => False
def tLcV (tg : Tg) (ti : VI) (c : VC) (e : VT) : VE := fun ρ Q => ti ρ fun its gs ρ1 => (gs.all fun p => !tg.ix.contains p.1) = true ∧ lent ρ1 tg.ix = true ∧ lcLoop tg gs c e its [] (wipeR ρ1 tg.ix) fun acc ρ2 => Q (.list acc) (backR ρ1 ρ2 tg.ix)
def WTs (X : Cx) (ifs : List Expr) : TT := fun σ H Q => ∀ (pins : List (Addr × Obj)) (s : Shared), Inv X pins σ H s →
    wpAny (model X.prog X.w) X.A (forIn ifs true fun c r => if r = true then do let ok ← isTrue c X.env (eval c X.env); pure (ForInStep.yield ok) else pure (ForInStep.yield r)) (TP X pins σ Q) X.xe s
theorem ptsW {X : Cx} {ifs : List Expr} : PTs X ifs (WTs X ifs) := ⟨fun pins s _ _ _ I h => h pins s I⟩
def JTs (X : Cx) (ifs : List Expr) (t : VC) : Prop := ∀ σ S H ρ Q, Rel X.K (bd X) S H σ ρ → t ρ Q → WTs X ifs σ H (PostC X σ S H ρ Q)
theorem WTs.of {X : Cx} {ifs : List Expr} {t : TT} {σ : L2.St} {H : Hp} {Q : Bool → Hp → Prop} (h : PTs X ifs t) (ht : t σ H Q) : WTs X ifs σ H Q := fun pins s I => h.run pins s σ H Q I ht
theorem WTs.mono {X : Cx} {ifs : List Expr} {σ : L2.St} {H : Hp} {Q Q' : Bool → Hp → Prop} (h : WTs X ifs σ H Q) (hq : ∀ v H', Q v H' → Q' v H') : WTs X ifs σ H Q' := fun pins s I =>
  thn (h pins s I) fun _ _ ⟨H', I', q⟩ => ⟨H', I', hq _ H' q⟩
def tYesV : VC := fun ρ Q => Q true ρ
theorem jts_nil {X : Cx} : JTs X [] tYesV := fun σ S H ρ Q hR ht => WTs.of pts_nil ⟨S, ρ, hR, .refl, ht⟩
theorem jts_one {X : Cx} {c : Expr} {t : VC} (h : JC X c t) : JTs X [c] t := fun σ S H ρ Q hR ht => WTs.of (pts_one ptW) (h σ S H ρ Q hR ht)
/-- in every block of a comprehension -/
def InBlk (X : Cx) (scope : Scope) (P : Cx → Prop) : Prop := ∀ (s : Shared) (H : Hp) (C : Addr) (cl : List (Str × Addr)) (fp : List Addr), P (X.blk s H scope (compEnvC scope cl C X.env) fp)
def bE (X : Cx) (scope : Scope) (e : Expr) : TE := fun σ H Q => InBlk X scope fun Y => W Y e σ H Q
def bT (X : Cx) (scope : Scope) (ifs : List Expr) : TT := fun σ H Q => InBlk X scope fun Y => WTs Y ifs σ H Q
section
variable {X : Cx} {pos : Pos} {elt tgE iter : Expr} {ifs : List Expr} {scope : Scope} {tg : Tg} {ti : VI} {tc : VC} {te : VT} {σ : L2.St} {S H : Hp} {ρ : R}
theorem lc_read {Q : D → R → Prop} {Q' : VK} (hb : (tg.ix.all fun i => decide (i < bd X)) = true) (hi : JI X tg.pair tgE iter ti) (ht : InBlk X scope fun Y => JTs Y ifs tc) (he : InBlk X scope fun Y => JT Y elt te) (hR : Rel X.K (bd X) S H σ ρ) (h : tLcV tg ti tc te ρ Q) (hQ : ∀ v H', PostN X σ S H ρ Q v H' → Q' v H') :
    tLc (WIt X tgE iter) (gT X.K tg) (bT X scope ifs) (bE X scope elt) tg.ix σ H Q' := by
  refine (hi σ S H ρ _ hR h).mono fun J H1 q => ?_
  obtain ⟨S1, ρ1, its, gs, as, R1, E1, Sv, L, hgs, hlent, q⟩ := q
  intro D hD
  have len1 : ∀ i ∈ tg.ix, i < ρ1.length := fun i hi => by
    rcases lent_at hlent hi with z | ⟨x, z⟩ <;> exact (List.getElem?_eq_some_iff.mp z).1
  have hb' : ∀ i ∈ tg.ix, i < bd X := fun i hi => of_decide_eq_true (List.all_eq_true.mp hb i hi)
  have Rw : Rel X.K (bd X) S1 H1 (L2.wipe σ tg.ix) (wipeR ρ1 tg.ix) := R1.wipe _ hb'
  have hgs' : ∀ p ∈ gs, (L2.wipe σ tg.ix)[p.1]? = σ[p.1]? := fun p hp => by
    have z := List.all_eq_true.mp hgs p hp
    refine wipe_out2 fun hm => ?_
    rw [List.contains_iff_mem.mpr hm] at z
    cases z
  refine ⟨fun i m Hc => m = its.length - i ∧ i ≤ its.length ∧ ∃ S' ρ' ws acc, Rel X.K (bd X) S' Hc (L2.wipe σ tg.ix) ρ' ∧ Ext (L2.wipe σ tg.ix) S1 H1 (wipeR ρ1 tg.ix) S' Hc ρ' ∧ (∀ j ∈ tg.ix, ρ'[j]? = some .no) ∧ S' D = none ∧ Hc D = some (.lst ws) ∧ RpAll S' ws acc ∧ lcLoop tg gs tc te (its.drop i) acc ρ' (fun acc ρ2 => Q (.list acc) (backR ρ1 ρ2 tg.ix)),
    ⟨its.length, by simp, Nat.zero_le _, S1, _, [], [], Rw.new0 hD, .new0 Rw hD, fun j hj => wipeR_at hj (len1 j hj), R1.sub.free hD, upd_same, .nil, q⟩, ?_⟩
  rintro i m Hc ⟨rfl, hle, S', ρ', ws, acc, R', E', hno, hSD, hHD, hacc, hl⟩
  by_cases hlt : i < its.length
  · -- a turn
    rw [List.drop_eq_getElem_cons hlt] at hl
    obtain ⟨hg, hl⟩ := hl
    obtain ⟨_, hsv⟩ := Sv S' Hc (linked_now L R' E'.same hg hgs')
    obtain ⟨hgo, hy⟩ := hsv i its[i] (List.getElem?_eq_getElem hlt)
    refine .inr ⟨hgo, fun Hn => ∃ S' ρ' ws acc, Rel X.K (bd X) S' Hn (L2.wipe σ tg.ix) ρ' ∧ Ext (L2.wipe σ tg.ix) S1 H1 (wipeR ρ1 tg.ix) S' Hn ρ' ∧ (∀ j ∈ tg.ix, ρ'[j]? = some .no) ∧ S' D = none ∧ Hn D = some (.lst ws) ∧ RpAll S' ws acc ∧ lcLoop tg gs tc te (its.drop (i + 1)) acc ρ' (fun acc ρ2 => Q (.list acc) (backR ρ1 ρ2 tg.ix)),
      fun Hn hn => ⟨its.length - (i + 1), by omega, rfl, hlt, hn⟩, fun x H' y => ?_⟩
    have it := hy x H' y
    split at hl
    · rename_i ρp hput
      obtain ⟨pl, po, pn⟩ := putT_out hput
      -- the heap behind the item
      have E0 : Ext (L2.wipe σ tg.ix) S' Hc ρ' S' H' ρ' ∧ H' D = some (.lst ws) := by
        generalize tg.pair = pr at it
        generalize its[i] = xi at it
        cases it with
        | one _ => exact ⟨.refl, hHD⟩
        | two hT _ =>
          refine ⟨.new0 R' hT, ?_⟩
          rw [upd_ne (fun z => by rw [← z, hHD] at hT; cases hT)]
          exact hHD
      refine tgt_ok R' it hput hb' fun σ1 R1p ho1 hl1 => ?_
      refine ⟨by
        rw [wipe_agree hl1 ho1]
        exact wipe_agree (wipe_length _ _) fun j hj => wipe_out2 hj, fun s0 H0 C cl fp => ?_⟩
      refine (ht s0 H0 C cl fp σ1 S' H' ρp _ R1p hl).mono fun b H3 q => ?_
      obtain ⟨S3, ρ3, R3, E3, q3⟩ := q
      have hσ1 : L2.wipe σ1 tg.ix = L2.wipe σ tg.ix := by
        rw [wipe_agree hl1 ho1]
        exact wipe_agree (wipe_length _ _) fun j hj => wipe_out2 hj
      have len3 : ρ3.length = ρ'.length := by rw [← R3.len, hl1, R'.len]
      cases b with
      | false =>
        have Et : Ext (L2.wipe σ tg.ix) S' H' ρ' S3 H3 (wipeR ρ3 tg.ix) := E3.turn ho1 hno po pn len3
        have nD : ¬ OwnAt (L2.wipe σ tg.ix) ρ' D := fun z => own_new Rw hD (E'.at.mpr z)
        have Ea := (E'.trans E0.1).trans Et
        have R3' := R3.wipe tg.ix hb'
        rw [hσ1] at R3'
        exact ⟨S3, _, ws, acc, R3', Ea, fun j hj => wipeR_at hj (by rw [len3]; exact (List.getElem?_eq_some_iff.mp (hno j hj)).1), Et.stay D (by rw [E0.2]; simp) hSD, Et.keep D _ E0.2 hSD nD, hacc.mono Et.same, q3⟩
      | true =>
        show InBlk X scope fun Y => W Y elt σ1 H3 _
        intro s0 H0 C cl fp
        refine (he s0 H0 C cl fp σ1 S3 H3 ρ3 _ R3 q3).mono fun y H4 q => ?_
        obtain ⟨S4, ρ4, u, R4, E4, d4, q4⟩ := q
        split at q4
        · rename_i d
          have len4 : ρ4.length = ρ'.length := by rw [← R4.len, hl1, R'.len]
          have Et : Ext (L2.wipe σ tg.ix) S' H' ρ' S4 H4 (wipeR ρ4 tg.ix) := (E3.trans E4).turn ho1 hno po pn len4
          have nD : ¬ OwnAt (L2.wipe σ tg.ix) ρ' D := fun z => own_new Rw hD (E'.at.mpr z)
          have Ea := (E'.trans E0.1).trans Et
          have R4' := R4.wipe tg.ix hb'
          rw [hσ1] at R4'
          have hSD4 := Et.stay D (by rw [E0.2]; simp) hSD
          refine ⟨ws, Et.keep D _ E0.2 hSD nD, by rw [rps_len hacc]; exact q4.1, S4, _, ws ++ [y], acc ++ [d], R4'.redo' Rw Ea hD hSD4 (Et.keep D _ E0.2 hSD nD), Ea.redo hD, fun j hj => wipeR_at hj (by rw [len4]; exact (List.getElem?_eq_some_iff.mp (hno j hj)).1), hSD4, upd_same, rps_app (hacc.mono Et.same) (rps_one d4), q4.2⟩
        · exact q4.elim
    · exact hl.elim
  · have e : i = its.length := by omega
    subst e
    rw [List.drop_length] at hl
    obtain ⟨hg, hl⟩ := hl
    obtain ⟨hst, _⟩ := Sv S' Hc (linked_now L R' E'.same hg hgs')
    have len2 : ρ1.length = ρ'.length := by rw [← R'.len, wipe_length, R1.len]
    refine .inl ⟨hst, hQ _ _ ⟨S', _, D, ws, acc, R1.back hb' hlent E' R', E1.trans (Ext.back R1 hlent E' len2), rfl, E_none E1 hD, hSD, hHD, hacc, hl⟩⟩
theorem jn_lc {own : List (Str × Nat)} (hb : (tg.ix.all fun i => decide (i < bd X)) = true) (hc : X.calm = true) (hN : X.N.Nodup) (ok : BlkOk X.N X.env.scope scope own) (ho : own.map (·.2) = tg.ix) (hi : JI X tg.pair tgE iter ti)
    (hg : InBlk X scope fun Y => PG Y tgE (gT X.K tg)) (ht : InBlk X scope fun Y => JTs Y ifs tc) (he : InBlk X scope fun Y => JT Y elt te) (hs : ∀ x, foldedSetIterable iter X.env x = pure x) :
    JN X (.ListComp elt [⟨tgE, iter, ifs, 0⟩] scope pos) (tLcV tg ti tc te) := by
  intro σ S H ρ Q hR h
  have hr := lc_read (Q' := PostN X σ S H ρ Q) hb hi ht he hR h fun _ _ z => z
  rw [← ho] at hr
  exact W.of (pe_lc hc hN piW ok hg (fun s H C cl fp => ⟨fun pins s' σ' H' Q I q => q s H C cl fp pins s' I⟩) (fun s H C cl fp => ⟨fun pins s' σ' H' Q I q => q s H C cl fp pins s' I⟩) hs) hr
end
end WA

/-! WA8: defs and their calls. -/
namespace WA
open PySem PySem.Spec PyProof.Rows L2

/-- how a parameter is handed: a value; a list that is read; one that is read and stands by itself; a list that may be changed -/
inductive Md where
  | val | ro | rs | own
  deriving DecidableEq
/-- shapes of what a def hands out new: a forest, first child and next sibling: a value, a list of values, a thing made of parts -/
inductive Fs where
  | nil
  | val (t : Fs)
  | lst (t : Fs)
  | pts (k : SK) (c t : Fs)
@[reducible] def Fs.ofB : Bool → Fs
  | true => .lst .nil
  | false => .val .nil
instance : Coe Bool Fs := ⟨Fs.ofB⟩
/-- the content of a thing, from that of its parts -/
def SK.d : SK → List D → D
  | .lst, xs => .list xs
  | .tup, xs => .tuple xs
  | .ins _ _, xs => .list xs
/-- what stands beside a thing in the heap -/
def SK.dx : HO → List Addr
  | .ins _ d _ => [d]
  | _ => []
/-- what stands at vs is xs, with all of the heap's cells that it is made of (but for those in S) -/
def OwnF (S H : Hp) : Fs → List V → List D → List Addr → Prop
  | .nil, vs, xs, as => vs = [] ∧ xs = [] ∧ as = []
  | .val t, vs, xs, as => ∃ v x vs' xs', vs = v :: vs' ∧ xs = x :: xs' ∧ Rp S v x ∧ OwnF S H t vs' xs' as
  | .lst t, vs, xs, as => ∃ a ws ds vs' xs' as', vs = .ref a :: vs' ∧ xs = .list ds :: xs' ∧ as = a :: as' ∧ H a = some (.lst ws) ∧ RpAll S ws ds ∧ OwnF S H t vs' xs' as'
  | .pts k c t, vs, xs, as => ∃ a us ys o bs vs' xs' as', vs = .ref a :: vs' ∧ xs = k.d ys :: xs' ∧ as = a :: (SK.dx o ++ (bs ++ as')) ∧ H a = some o ∧ k.objR H a us o ∧ OwnF S H c us ys bs ∧ OwnF S H t vs' xs' as'
/-- what a def is promised to do: from the arguments, what is wanted of its answer and of the lists it changed -/
structure FSpec where
  name : Str
  modes : List Md
  new : Fs
  pre : List D → Prop
  post : List D → D → List (List D) → Prop
inductive ArgsR (K : PySem.W.Frag) (S H : Hp) : List Md → List V → List D → List Addr → List Addr → Prop where
  | nil : ArgsR K S H [] [] [] [] []
  | val {ms vs xs os rs v x} : Rp S v x → ArgsR K S H ms vs xs os rs → ArgsR K S H (.val :: ms) (v :: vs) (x :: xs) os rs
  | ro {ms vs xs os rs a ws ds} {o : HO} : (o = .lst ws ∨ ∃ ob, o = .frz ob (.lst ws)) → H a = some o → RpAll S ws ds → ArgsR K S H ms vs xs os rs → ArgsR K S H (.ro :: ms) (.ref a :: vs) (.list ds :: xs) os (a :: rs)
  | kl {ms vs xs os rs a ws ds} : KL K a ws → RpAll S ws ds → ArgsR K S H ms vs xs os rs → ArgsR K S H (.ro :: ms) (.ref a :: vs) (.list ds :: xs) os rs
  | rs {ms vs xs os rs a ws ds} : H a = some (.lst ws) → RpAll S ws ds → ArgsR K S H ms vs xs os rs → ArgsR K S H (.rs :: ms) (.ref a :: vs) (.list ds :: xs) os (a :: rs)
  | own {ms vs xs os rs a ws ds} : S a = none → H a = some (.lst ws) → RpAll S ws ds → ArgsR K S H ms vs xs os rs → ArgsR K S H (.own :: ms) (.ref a :: vs) (.list ds :: xs) (a :: os) rs
structure CExt (S H : Hp) (os : List Addr) (S' H' : Hp) : Prop where
  sub : Same S' H'
  same : Same S S'
  there : ∀ b, H b ≠ none → H' b ≠ none
  stay : ∀ b, H b ≠ none → S b = none → S' b = none
  keep : ∀ b o, H b = some o → S b = none → b ∉ os → H' b = some o
def OwnsR (S' H' : Hp) : List Addr → List (List D) → Prop := Paired fun a ys => ∃ ws, H' a = some (.lst ws) ∧ RpAll S' ws ys
def ResR (f : Fs) (H S' H' : Hp) (v : V) (r : D) : Prop := ∃ as, OwnF S' H' f [v] [r] as ∧ as.Nodup ∧ ∀ a ∈ as, H a = none ∧ S' a = none
theorem ResR.rp {H S' H' : Hp} {v : V} {r : D} (h : ResR false H S' H' v r) : Rp S' v r := by
  obtain ⟨as, ⟨v', x', vs, xs, e1, e2, h, _⟩, _⟩ := h
  cases e1
  cases e2
  exact h
theorem ResR.of {H S' H' : Hp} {v : V} {r : D} (h : Rp S' v r) : ResR false H S' H' v r := ⟨[], ⟨v, r, [], [], rfl, rfl, h, rfl, rfl, rfl⟩, by simp, fun _ h => by cases h⟩
theorem ResR.lst {H S' H' : Hp} {v : V} {r : D} (h : ResR true H S' H' v r) : ∃ a ws ds, v = .ref a ∧ r = .list ds ∧ H a = none ∧ S' a = none ∧ H' a = some (.lst ws) ∧ RpAll S' ws ds := by
  obtain ⟨as, ⟨a, ws, ds, vs, xs, bs, e1, e2, e3, h1, h2, _⟩, _, hn⟩ := h
  cases e1
  cases e2
  obtain ⟨n1, n2⟩ := hn a (by rw [e3]; exact List.mem_cons_self)
  exact ⟨a, ws, ds, rfl, rfl, n1, n2, h1, h2⟩
def spOf (K : PySem.W.Frag) (f : FSpec) : Sp := fun vs H Q _ => ∃ S xs os rs, Same S H ∧ ArgsR K S H f.modes vs xs os rs ∧ os.Nodup ∧ (∀ a ∈ rs, a ∉ os) ∧
  f.pre xs ∧ ∀ r yss, f.post xs r yss → ∀ v S' H', CExt S H os S' H' → OwnsR S' H' os yss → ResR f.new H S' H' v r → Q v H'

/-! ### at the call -/
def argD (ρ : R) : List Md → List AV → Option (List D)
  | [], [] => some []
  | .val :: ms, .val x :: as => (argD ρ ms as).map (x :: ·)
  | .ro :: ms, a :: as => match deref ρ a with
    | some (.list xs) => (argD ρ ms as).map (.list xs :: ·)
    | _ => none
  | .rs :: ms, a :: as => match deref ρ a, strict ρ a with
    | some (.list xs), true => (argD ρ ms as).map (.list xs :: ·)
    | _, _ => none
  | .own :: ms, .slot i :: as => match ρ[i]? with
    | some (.own xs) => (argD ρ ms as).map (.list xs :: ·)
    | _ => none
  | _, _ => none
def ownIx : List Md → List AV → List Nat
  | .own :: ms, .slot i :: as => i :: ownIx ms as
  | _ :: ms, _ :: as => ownIx ms as
  | _, _ => []
def roIx : List Md → List AV → List Nat
  | .ro :: ms, .slot i :: as => i :: roIx ms as
  | .rs :: ms, .slot i :: as => i :: roIx ms as
  | _ :: ms, _ :: as => roIx ms as
  | _, _ => []
def apartIx (ms : List Md) (as : List AV) : Bool := decide (ownIx ms as).Nodup && (roIx ms as).all fun i => !(ownIx ms as).contains i
def putOwn : R → List Nat → List (List D) → R
  | ρ, i :: is, ys :: yss => putOwn (ρ.set i (.own ys)) is yss
  | ρ, _, _ => ρ
section
variable {K : PySem.W.Frag} {B : Nat} {S H S' H' : Hp} {σ : L2.St} {ρ : R}
/-- the arguments as a callee wants them -/
theorem args_ok (R : Rel K B S H σ ρ) : ∀ {ms : List Md} {vs : List V} {as : List AV} {xs : List D}, ARs K S σ vs as → argD ρ ms as = some xs →
    ∃ os rs, ArgsR K S H ms vs xs os rs ∧ Paired (fun (i : Nat) (a : Addr) => σ[i]? = some (some (.ref a)) ∧ ∃ ys, ρ[i]? = some (.own ys)) (ownIx ms as) os ∧
      ∀ a ∈ rs, (∃ o, S a = some o) ∨ ∃ i ∈ roIx ms as, σ[i]? = some (some (.ref a)) ∧ ((∃ ys, ρ[i]? = some (.own ys)) ∨ ∃ k ys, ρ[i]? = some (.ro k ys) ∧ ¬ OwnAt σ ρ a)
  | [], _, _, _, .nil, h => by
    cases h
    exact ⟨[], [], .nil, .nil, fun a ha => absurd ha (by simp)⟩
  | [], _, _, _, .cons _ _, h => by cases h
  | m :: ms, _, _, _, .nil, h => by cases m <;> cases h
  | .val :: ms, _, _, _, .cons (b := .val x) r t, h => by
    cases q : argD ρ ms _ with
    | none => rw [argD, q] at h; cases h
    | some ys =>
      rw [argD, q] at h
      cases h
      obtain ⟨os, rs, h1, h2, h3⟩ := args_ok R t q
      exact ⟨os, rs, .val r h1, h2, h3⟩
  | .val :: ms, _, _, _, .cons (b := .slot i) r t, h => by cases h
  | .ro :: ms, _, _, _, .cons (b := a) (l₂ := as) r t, h => by
    unfold argD at h
    split at h
    · rename_i xs e
      cases q : argD ρ ms _ with
      | none => rw [q] at h; cases h
      | some ys =>
        rw [q] at h
        cases h
        obtain ⟨os, rs, h1, h2, h3⟩ := args_ok R t q
        cases a with
        | val x =>
          cases e
          have r : Rp S _ (.list xs) := r
          cases r with
          | lst z z2 =>
            refine ⟨os, _ :: rs, .ro (.inl rfl) (R.sub _ _ z) z2 h1, h2, fun b hb => ?_⟩
            rcases List.mem_cons.mp hb with rfl | hb
            · exact .inl ⟨_, z⟩
            · exact h3 b hb
        | slot i =>
          have r : σ[i]? = some (some _) := r
          have h3' : ∀ a ∈ rs, (∃ o, S a = some o) ∨ ∃ j ∈ roIx (.ro :: ms) (.slot i :: as), σ[j]? = some (some (.ref a)) ∧ ((∃ ys, ρ[j]? = some (.own ys)) ∨ ∃ k ys, ρ[j]? = some (.ro k ys) ∧ ¬ OwnAt σ ρ a) := fun b hb => by
            rcases h3 b hb with z | ⟨j, z1, z2⟩
            · exact .inl z
            · exact .inr ⟨j, by simp [roIx, z1], z2⟩
          rcases deref_slot e with ⟨zs, he, q⟩ | ⟨k, zs, he, q⟩
          · cases q
            obtain ⟨a, ws, b1, b2, b3, b4⟩ := R.own i _ he
            rw [r] at b1
            cases b1
            refine ⟨os, a :: rs, .ro (.inl rfl) b3 b4 h1, h2, fun b hb => ?_⟩
            rcases List.mem_cons.mp hb with rfl | hb
            · exact .inr ⟨i, by simp [roIx], r, .inl ⟨_, he⟩⟩
            · exact h3' b hb
          · cases q
            obtain ⟨a, ws, b1, b2, b3⟩ := R.ro i k _ he
            rw [r] at b1
            cases b1
            rcases b2 with ⟨_, b2⟩ | ⟨⟨o, q, b2⟩, n⟩
            · exact ⟨os, rs, .kl b2 b3 h1, h2, h3'⟩
            · refine ⟨os, a :: rs, .ro (q.imp _root_.id fun z => z.2) b2 b3 h1, h2, fun b hb => ?_⟩
              rcases List.mem_cons.mp hb with rfl | hb
              · exact .inr ⟨i, by simp [roIx], r, .inr ⟨k, _, he, n⟩⟩
              · exact h3' b hb
    · cases h
  | .rs :: ms, _, _, _, .cons (b := a) r t, h => by
    unfold argD at h
    split at h
    · rename_i xs e st
      cases q : argD ρ ms _ with
      | none => rw [q] at h; cases h
      | some ys =>
        rw [q] at h
        cases h
        obtain ⟨os, rs, h1, h2, h3⟩ := args_ok R t q
        obtain ⟨p, ws, rfl, e1, e2⟩ := ARep.listS R r e st
        cases a with
        | val x =>
          cases e
          refine ⟨os, p :: rs, .rs e1 e2 h1, h2, fun b hb => ?_⟩
          rcases List.mem_cons.mp hb with rfl | hb
          · have r : Rp S (.ref b) (.list xs) := r
            cases r with
            | lst z _ => exact .inl ⟨_, z⟩
          · exact h3 b hb
        | slot i =>
          refine ⟨os, p :: rs, .rs e1 e2 h1, h2, fun b hb => ?_⟩
          rcases List.mem_cons.mp hb with rfl | hb
          · refine .inr ⟨i, by simp [roIx], r, ?_⟩
            rcases deref_slot e with ⟨zs, he, _⟩ | ⟨k, zs, he, _⟩
            · exact .inl ⟨zs, he⟩
            · refine .inr ⟨k, zs, he, ?_⟩
              obtain ⟨a, ws', b1, b2, b3⟩ := R.ro i k _ he
              have r : σ[i]? = some (some _) := r
              rw [r] at b1
              cases b1
              have st : (match ρ[i]? with
                | some (.own _) => true
                | some (.ro k _) => k
                | _ => false) = true := st
              rw [he] at st
              have st : k = true := st
              subst st
              rcases b2 with ⟨q, _⟩ | ⟨_, n⟩
              · cases q
              · exact n
          · rcases h3 b hb with z | ⟨j, z1, z2⟩
            · exact .inl z
            · exact .inr ⟨j, by simp [roIx, z1], z2⟩
    · cases h
  | .own :: ms, _, _, _, .cons (b := .val x) r t, h => by cases h
  | .own :: ms, _, _, _, .cons (b := .slot i) r t, h => by
    unfold argD at h
    split at h
    · rename_i xs e
      cases q : argD ρ ms _ with
      | none => rw [q] at h; cases h
      | some ys =>
        rw [q] at h
        cases h
        obtain ⟨os, rs, h1, h2, h3⟩ := args_ok R t q
        obtain ⟨a, ws, b1, b2, b3, b4⟩ := R.own i xs e
        have r : σ[i]? = some (some _) := r
        rw [r] at b1
        cases b1
        exact ⟨a :: os, rs, .own b2 b3 b4 h1, .cons ⟨r, xs, e⟩ h2, h3⟩
    · cases h
theorem paired_mem {α β : Type} {F : α → β → Prop} : ∀ {xs : List α} {ys : List β}, Paired F xs ys → ∀ y ∈ ys, ∃ x ∈ xs, F x y
  | _, _, .nil, y, h => absurd h (by simp)
  | _, _, .cons r t, y, h => by
    rcases List.mem_cons.mp h with rfl | h
    · exact ⟨_, List.mem_cons_self, r⟩
    · obtain ⟨x, h1, h2⟩ := paired_mem t y h
      exact ⟨x, List.mem_cons_of_mem _ h1, h2⟩
theorem paired_mem' {α β : Type} {F : α → β → Prop} : ∀ {xs : List α} {ys : List β}, Paired F xs ys → ∀ x ∈ xs, ∃ y ∈ ys, F x y
  | _, _, .nil, y, h => absurd h (by simp)
  | _, _, .cons r t, y, h => by
    rcases List.mem_cons.mp h with rfl | h
    · exact ⟨_, List.mem_cons_self, r⟩
    · obtain ⟨x, h1, h2⟩ := paired_mem' t y h
      exact ⟨x, List.mem_cons_of_mem _ h1, h2⟩
theorem owns_nodup (R : Rel K B S H σ ρ) : ∀ {is : List Nat} {os : List Addr}, Paired (fun (i : Nat) (a : Addr) => σ[i]? = some (some (.ref a)) ∧ ∃ ys, ρ[i]? = some (.own ys)) is os → is.Nodup → os.Nodup
  | _, _, .nil, _ => .nil
  | _, _, .cons (a := i) (b := a) r t, h => by
    rw [List.nodup_cons] at h ⊢
    refine ⟨fun hm => ?_, owns_nodup R t h.2⟩
    obtain ⟨j, hj, e, ys, hy⟩ := paired_mem t a hm
    obtain ⟨e', zs, hz⟩ := r
    exact h.1 (R.sep i j _ _ a (ow hz) (ow hy) e' e ▸ hj)
/-- behind the call -/
theorem puts_ok : ∀ {is : List Nat} {os : List Addr} {yss : List (List D)} {ρ : R}, σ.length = ρ.length →
    Paired (fun (i : Nat) (a : Addr) => σ[i]? = some (some (.ref a)) ∧ ∃ ys, ρ[i]? = some (.own ys)) is os → OwnsR S' H' os yss → is.Nodup →
    (∀ (i : Nat) (ys : List D), i ∈ is → (putOwn ρ is yss)[i]? = some (.own ys) → ∃ a ws, σ[i]? = some (some (.ref a)) ∧ H' a = some (.lst ws) ∧ RpAll S' ws ys) ∧
      (∀ i : Nat, i ∈ is → ∃ ys, (putOwn ρ is yss)[i]? = some (.own ys)) ∧ (∀ i : Nat, i ∉ is → (putOwn ρ is yss)[i]? = ρ[i]?) ∧ (putOwn ρ is yss).length = ρ.length
  | _, _, _, ρ, hl, .nil, .nil, _ => ⟨fun i ys h => absurd h (by simp), fun i h => absurd h (by simp), fun _ _ => rfl, rfl⟩
  | _, _, _, ρ, hl, .cons (a := i) (l₁ := is) r t, .cons (b := ys) (l₂ := yss) g gs, hn => by
    obtain ⟨e, zs, hz⟩ := r
    obtain ⟨ws, g1, g2⟩ := g
    rw [List.nodup_cons] at hn
    have hi : i < ρ.length := (List.getElem?_eq_some_iff.mp hz).1
    have t' : Paired (fun (j : Nat) (a : Addr) => σ[j]? = some (some (.ref a)) ∧ ∃ us, (ρ.set i (.own ys))[j]? = some (.own us)) is _ := Paired.mapP t fun j a ⟨q, us, hu⟩ => by
      refine ⟨q, ?_⟩
      by_cases e : j = i
      · subst e
        exact ⟨ys, List.getElem?_set_self hi⟩
      · exact ⟨us, by rw [List.getElem?_set_ne (fun z => e z.symm)]; exact hu⟩
    obtain ⟨h1, h2, h3, h4⟩ := puts_ok (ρ := ρ.set i (.own ys)) (by rw [List.length_set]; exact hl) t' gs hn.2
    have hset : (putOwn ρ (i :: is) (ys :: yss)) = putOwn (ρ.set i (.own ys)) is yss := rfl
    rw [hset]
    refine ⟨fun j us hj hu => ?_, fun j hj => ?_, fun j hj => ?_, by rw [h4, List.length_set]⟩
    · rcases List.mem_cons.mp hj with rfl | hj
      · rw [h3 j hn.1, List.getElem?_set_self hi] at hu
        cases hu
        exact ⟨_, ws, e, g1, g2⟩
      · exact h1 j us hj hu
    · rcases List.mem_cons.mp hj with rfl | hj
      · exact ⟨ys, by rw [h3 j hn.1]; exact List.getElem?_set_self hi⟩
      · exact h2 j hj
    · rw [h3 j fun z => hj (List.mem_cons_of_mem _ z), List.getElem?_set_ne fun z => hj (by simp [z])]
theorem call_rel (R : Rel K B S H σ ρ) {is : List Nat} {os : List Addr} {yss : List (List D)} (hp : Paired (fun (i : Nat) (a : Addr) => σ[i]? = some (some (.ref a)) ∧ ∃ ys, ρ[i]? = some (.own ys)) is os) (hn : is.Nodup) (C : CExt S H os S' H') (O : OwnsR S' H' os yss) :
    Rel K B S' H' σ (putOwn ρ is yss) ∧ Ext σ S H ρ S' H' (putOwn ρ is yss) := by
  obtain ⟨p1, p2, p3, p4⟩ := puts_ok R.len hp O hn
  have notin : ∀ {b : Addr} {j : Nat}, (∀ (m : Nat) (ys : List D), m ∈ is → σ[m]? = some (some (.ref b)) → ρ[m]? = some (.own ys) → False) → b ∉ os := fun {b j} h hb => by
    obtain ⟨m, hm, e, ys, hy⟩ := paired_mem hp b hb
    exact h m ys hm e hy
  have kept : ∀ {b : Addr} {o : HO}, H b = some o → (S b = none → b ∉ os) → H' b = some o := fun {b o} h n => by
    cases hs : S b with
    | none => exact C.keep b o h hs (n hs)
    | some o2 =>
      have e := R.sub _ _ hs
      rw [h] at e
      cases e
      exact C.sub _ _ (C.same _ _ hs)
  have oa : ∀ {b : Addr}, OwnAt σ (putOwn ρ is yss) b → OwnAt σ ρ b := fun {b} ⟨m, u, hm, e⟩ => by
    by_cases hmi : m ∈ is
    · obtain ⟨a', ha', e4, ys, hy⟩ := paired_mem' hp m hmi
      exact ⟨m, _, ow hy, e⟩
    · have := hm.1
      rw [p3 m hmi] at this
      exact ⟨m, u, ⟨this, hm.2⟩, e⟩
  refine ⟨⟨by rw [p4]; exact R.len, C.sub, fun j x hx => ?_, fun j zs hx => ?_, fun j k zs hx => ?_, fun j k s t b h1 h2 h3 h4 => ?_, ?_⟩, ⟨C.same, C.there, C.stay, fun b o hb hs n => ?_, fun i => ?_, fun i n => ?_⟩⟩
  · have hj : j ∉ is := fun z => by
      obtain ⟨ys, q⟩ := p2 j z
      rw [hx] at q
      cases q
    rw [p3 j hj] at hx
    obtain ⟨w, a, b⟩ := R.val j x hx
    exact ⟨w, a, b.mono C.same⟩
  · by_cases hj : j ∈ is
    · obtain ⟨a, ws, e1, e2, e3⟩ := p1 j zs hj hx
      obtain ⟨a', ha', e4, ys, hy⟩ := paired_mem' hp j hj
      rw [e1] at e4
      cases e4
      obtain ⟨b, us, b1, b2, b3, _⟩ := R.own j ys hy
      rw [e1] at b1
      cases b1
      exact ⟨a, ws, e1, C.stay a (by rw [b3]; simp) b2, e2, e3⟩
    · rw [p3 j hj] at hx
      obtain ⟨b, ws, b1, b2, b3, b4⟩ := R.own j zs hx
      refine ⟨b, ws, b1, C.stay b (by rw [b3]; simp) b2, kept b3 fun _ => notin (j := j) fun m ys hm e hy => ?_, b4.mono C.same⟩
      exact hj (R.sep m j _ _ b (ow hy) (ow hx) e b1 ▸ hm)
  · have hj : j ∉ is := fun z => by
      obtain ⟨ys, q⟩ := p2 j z
      rw [hx] at q
      cases q
    rw [p3 j hj] at hx
    obtain ⟨b, ws, b1, b2, b3⟩ := R.ro j k zs hx
    refine ⟨b, ws, b1, b2.to (fun o q n => kept q fun _ => notin (j := j) fun m ys hm e hy => n ⟨m, _, ow hy, e⟩) (fun _ z => oa z), b3.mono C.same⟩
  · have back : ∀ {m : Nat} {u : Sl}, Ow (putOwn ρ is yss) m u → ∃ u', Ow ρ m u' := fun {m u} hm => by
      by_cases hmi : m ∈ is
      · obtain ⟨a', ha', e4, ys, hy⟩ := paired_mem' hp m hmi
        exact ⟨_, ow hy⟩
      · have := hm.1
        rw [p3 m hmi] at this
        exact ⟨u, this, hm.2⟩
    obtain ⟨_, g1⟩ := back h1
    obtain ⟨_, g2⟩ := back h2
    exact R.sep _ _ _ _ b g1 g2 h3 h4
  · refine R.vir.to (fun j s q l => ?_) (fun _ _ => rfl) (fun j k ns a u q1 q2 q3 q4 => ⟨C.stay a (by rw [q4]; simp) q3, kept q4 fun _ => notin (j := j) fun m ys hm e hy => ?_⟩) (fun d c q1 q2 n => ⟨C.stay d (by rw [q1]; simp) q2, kept q1 fun _ => notin (j := 0) fun m ys hm e hy => n ⟨m, _, ow hy, e⟩, fun z => n (oa z)⟩)
    · by_cases hj : j ∈ is
      · obtain ⟨ys, z⟩ := p2 j hj
        rw [q] at z
        cases z
        cases l
      · rw [p3 j hj] at q
        exact ⟨q, rfl⟩
    · have := R.sep j m _ _ a ⟨q1, rfl⟩ (ow hy) q2 e
      subst this
      rw [q1] at hy
      cases hy
  · refine C.keep b o hb hs fun hm => ?_
    obtain ⟨m, hm', e, ys, hy⟩ := paired_mem hp b hm
    exact n ⟨m, _, ow hy, e⟩
  · by_cases hi : i ∈ is
    · obtain ⟨a', ha', e4, ys, hy⟩ := paired_mem' hp i hi
      exact ⟨fun _ => p2 i hi, fun _ => ⟨ys, hy⟩⟩
    · rw [p3 i hi]
  · by_cases hi : i ∈ is
    · obtain ⟨a', ha', e4, ys, hy⟩ := paired_mem' hp i hi
      exact absurd hy (n ys)
    · rw [p3 i hi]
theorem ro_apart (R : Rel K B S H σ ρ) {ms : List Md} {as : List AV} {os rs : List Addr} (hp : Paired (fun (i : Nat) (a : Addr) => σ[i]? = some (some (.ref a)) ∧ ∃ ys, ρ[i]? = some (.own ys)) (ownIx ms as) os)
    (hr : ∀ a ∈ rs, (∃ o, S a = some o) ∨ ∃ i ∈ roIx ms as, σ[i]? = some (some (.ref a)) ∧ ((∃ ys, ρ[i]? = some (.own ys)) ∨ ∃ k ys, ρ[i]? = some (.ro k ys) ∧ ¬ OwnAt σ ρ a)) (hx : apartIx ms as = true) : ∀ a ∈ rs, a ∉ os := fun a ha hm => by
  rw [apartIx, Bool.and_eq_true] at hx
  obtain ⟨m, hm', e, ys, hy⟩ := paired_mem hp a hm
  rcases hr a ha with ⟨o, hs⟩ | ⟨i, hi, e', q⟩
  · have := (R.own_at ⟨m, _, ow hy, e⟩).1
    rw [hs] at this
    cases this
  · rcases q with ⟨zs, q⟩ | ⟨k, zs, q, n⟩
    · have em := R.sep i m _ _ a (ow q) (ow hy) e' e
      subst em
      have z := List.all_eq_true.mp hx.2 i hi
      rw [List.contains_iff_mem.mpr hm'] at z
      cases z
    · exact n ⟨m, _, ow hy, e⟩
end
def tCallF (f : FSpec) (t : VA) : VE := fun ρ Q => t ρ fun as ρ1 => match argD ρ1 f.modes as with
  | some xs => apartIx f.modes as = true ∧ f.pre xs ∧ ∀ r yss, f.post xs r yss → Q r (putOwn ρ1 (ownIx f.modes as) yss)
  | none => False
/-- a def that is known to keep its promise -/
structure Known (X : Cx) (lvl : Nat) (f : FSpec) : Prop where
  ok : ∃ (a : Addr) (fd : FuncData) (ps : List Str), FnOk X.prog X.w X.K X.mg X.base CX0 lvl a fd ps (spOf X.K f) ∧ X.mg f.name = some (.ref a) ∧ PySem.W.keepIn X.K (.ref a) = true ∧ Binds X.K fd ps []
  nd : (f.name == ("__debug__" : Str)) = false
section
variable {X : Cx} {pos p : Pos} {e : Expr} {es : List Expr} {lvl : Nat} {f : FSpec} {t : VA}
theorem call_core (hr : Room lvl X.A) (k : Known X lvl f) (hg : Gl X f.name) (h : JA X (e :: es) t) (hs : (e :: es).all notStar = true) {σ : L2.St} {S H : Hp} {ρ : R} {Q : D → R → Prop} (hR : Rel X.K (bd X) S H σ ρ) (ht : tCallF f t ρ Q) {Q' : VK}
    (hq : ∀ (v : V) (r : D) (H1 S2 H2 : Hp) (ρ2 : R), Rel X.K (bd X) S2 H2 σ ρ2 → Ext σ S H ρ S2 H2 ρ2 → (∀ b, H b ≠ none → H1 b ≠ none) → ResR f.new H1 S2 H2 v r → Q r ρ2 → Q' v H2) : W X (.Call (.Name f.name p) (e :: es) [] pos) σ H Q' := by
  obtain ⟨a, fd, ps, F, hm, hk, hb⟩ := k.ok
  rw [List.all_cons, Bool.and_eq_true] at hs
  refine W.of (pe_call F hr hg hm hk hb .nil pass0 paW k.nd (star_cons hs.1) (star_none hs.2)) ((h σ S H ρ _ hR ht).mono fun vs H1 q => ?_)
  obtain ⟨S1, ρ1, as, R1, E1, d1, q1⟩ := q
  split at q1
  · rename_i xs ex
    obtain ⟨hap, hpre, q1⟩ := q1
    obtain ⟨os, rs, A1, hp, hro⟩ := args_ok R1 d1 ex
    have hap' := hap
    rw [apartIx, Bool.and_eq_true] at hap'
    have hn := of_decide_eq_true hap'.1
    rw [List.append_nil]
    refine ⟨S1, xs, os, rs, R1.sub, A1, owns_nodup R1 hp hn, ro_apart R1 hp hro hap, hpre, fun r yss hpost v S2 H2 C O rr => ?_⟩
    obtain ⟨R2, E2⟩ := call_rel R1 hp hn C O
    exact hq v r H1 S2 H2 _ R2 (E1.trans E2) E1.there rr (q1 r yss hpost)
  · exact q1.elim
theorem je_call (hr : Room lvl X.A) (k : Known X lvl f) (hg : Gl X f.name) (h : JA X (e :: es) t) (hs : (e :: es).all notStar = true) (hf : f.new = false) : JE X (.Call (.Name f.name p) (e :: es) [] pos) (tCallF f t) := by
  intro σ S H ρ Q hR ht
  refine call_core hr k hg h hs hR ht fun v r H1 S2 H2 ρ2 R2 E _ rr q => ?_
  rw [hf] at rr
  exact ⟨S2, ρ2, r, R2, E, rr.rp, q⟩
theorem jn_call (hr : Room lvl X.A) (k : Known X lvl f) (hg : Gl X f.name) (h : JA X (e :: es) t) (hs : (e :: es).all notStar = true) (hf : f.new = true) : JN X (.Call (.Name f.name p) (e :: es) [] pos) (tCallF f t) := by
  intro σ S H ρ Q hR ht
  refine call_core hr k hg h hs hR ht fun v r H1 S2 H2 ρ2 R2 E th rr q => ?_
  rw [hf] at rr
  obtain ⟨a, ws, ds, rfl, rfl, h1, h2, h3, h4⟩ := rr.lst
  refine ⟨S2, ρ2, a, ws, ds, R2, E, rfl, ?_, h2, h3, h4, q⟩
  cases e : H a with
  | none => rfl
  | some o => exact absurd h1 (th a (by rw [e]; simp))
/-- f(e): e a new list that f may change -/
def tCallN (f : FSpec) (t : VE) : VE := fun ρ Q => f.modes = [.own] ∧ t ρ fun x ρ1 => f.pre [x] ∧ ∀ r yss, f.post [x] r yss → Q r ρ1
theorem je_callN {te : VE} (hr : Room lvl X.A) (k : Known X lvl f) (hg : Gl X f.name) (h : JN X e te) (hs : notStar e = true) (hf : f.new = false) : JE X (.Call (.Name f.name p) [e] [] pos) (tCallN f te) := by
  intro σ S H ρ Q hR ht
  obtain ⟨hmd, ht⟩ := ht
  obtain ⟨a, fd, ps, F, hm, hk, hb⟩ := k.ok
  refine W.of (pe_call F hr hg hm hk hb .nil pass0 (pa_cons peW pa_nil (star_cons hs)) k.nd (star_cons hs) rfl) ((h σ S H ρ _ hR ht).mono fun v H1 q => ?_)
  obtain ⟨S1, ρ1, c, vs, xs, R1, E1, rfl, hc, hcs, hcl, hd, hpre, q⟩ := q
  refine ⟨S1, [.list xs], [c], [], R1.sub, by rw [hmd]; exact .own hcs hcl hd .nil, by simp, fun _ hm => absurd hm (by simp), hpre, fun r yss hpost v S2 H2 C O rr => ?_⟩
  rw [hf] at rr
  have nc : ¬ OwnAt σ ρ1 c := fun z => own_new hR hc (E1.at.mpr z)
  -- all but the list at c is as after a call that changes nothing
  have kept : ∀ {b : Addr} {o : HO}, b ≠ c → H1 b = some o → H2 b = some o := fun {b o} n h => by
    cases hs : S1 b with
    | none => exact C.keep b o h hs (by simpa using n)
    | some o2 =>
      have e := R1.sub _ _ hs
      rw [h] at e
      cases e
      exact C.sub _ _ (C.same _ _ hs)
  have R2 : Rel X.K (bd X) S2 H2 σ ρ1 := by
    refine ⟨R1.len, C.sub, fun j x hx => ?_, fun j zs hx => ?_, fun j k zs hx => ?_, R1.sep, ?_⟩
    · obtain ⟨w, a, b⟩ := R1.val j x hx
      exact ⟨w, a, b.mono C.same⟩
    · obtain ⟨b, ws, b1, b2, b3, b4⟩ := R1.own j zs hx
      exact ⟨b, ws, b1, C.stay b (by rw [b3]; simp) b2, kept (fun z => nc ⟨j, _, ow hx, by rw [← z]; exact b1⟩) b3, b4.mono C.same⟩
    · have no : ∀ ys, ρ[j]? ≠ some (.own ys) := fun ys q => by
        obtain ⟨zs', q'⟩ := (E1.kind j).mp ⟨ys, q⟩
        rw [hx] at q'
        cases q'
      have e1 : ρ[j]? = some (.ro k zs) := by rw [← E1.oth j no]; exact hx
      obtain ⟨b, ws, b1, b2, b3⟩ := hR.ro j k zs e1
      refine ⟨b, ws, b1, b2.to (fun o q nb => ?_) (fun _ z => E1.at.mpr z), b3.mono (E1.same.trans C.same)⟩
      have hb : b ≠ c := fun z => by rw [z, hc] at q; cases q
      refine kept hb ?_
      cases hs : S b with
      | none => exact E1.keep b o q hs nb
      | some o2 =>
        have e2 := hR.sub _ _ hs
        rw [q] at e2
        cases e2
        exact R1.sub _ _ (E1.same _ _ hs)
    · exact R1.vir.to (fun _ _ q _ => ⟨q, rfl⟩) (fun _ _ => rfl) (fun i k is a u q1 q2 q3 q4 => ⟨C.stay a (by rw [q4]; simp) q3, kept (fun z => nc ⟨i, _, ⟨q1, rfl⟩, by rw [← z]; exact q2⟩) q4⟩) (fun d e q1 q2 n => ⟨C.stay d (by rw [q1]; simp) q2, kept (fun z => by rw [z, hcl] at q1; cases q1) q1, n⟩)
  refine ⟨S2, ρ1, r, R2, ⟨E1.same.trans C.same, fun b h => C.there b (E1.there b h), fun b h h0 => C.stay b (E1.there b h) (E1.stay b h h0), fun b o h h0 n => ?_, E1.kind, E1.oth⟩, rr.rp, q r yss hpost⟩
  exact kept (fun z => by rw [z, hc] at h; cases h) (E1.keep b o h h0 n)
end
end WA

/-! WA9: statements. -/
namespace WA
open PySem PySem.Spec PyProof.Rows L2

/-- what a statement leaves of what stood; F: the slots that keep their list -/
structure XS (F : List Nat) (σ : L2.St) (S H : Hp) (ρ : R) (σ' : L2.St) (S' H' : Hp) (ρ' : R) : Prop where
  same : Same S S'
  there : ∀ b, H b ≠ none → H' b ≠ none
  stay : ∀ b, H b ≠ none → S b = none → ¬ OwnAt σ ρ b → S' b = none
  keep : ∀ b o, H b = some o → S b = none → ¬ OwnAt σ ρ b → H' b = some o
  own : ∀ b, OwnAt σ' ρ' b → OwnAt σ ρ b ∨ H b = none
  fix : ∀ i ∈ F, σ'[i]? = σ[i]?
  kind : ∀ i ∈ F, (∃ xs, ρ[i]? = some (.own xs)) → ∃ xs, ρ'[i]? = some (.own xs)
section
variable {F : List Nat} {σ σ1 σ2 : L2.St} {S H S1 H1 S2 H2 : Hp} {ρ ρ1 ρ2 : R} {K : PySem.W.Frag} {B : Nat}
theorem XS.refl : XS F σ S H ρ σ S H ρ := ⟨Same.refl _, fun _ h => h, fun _ _ h _ => h, fun _ _ h _ _ => h, fun _ h => .inl h, fun _ _ => rfl, fun _ _ h => h⟩
theorem XS.trans (a : XS F σ S H ρ σ1 S1 H1 ρ1) (b : XS F σ1 S1 H1 ρ1 σ2 S2 H2 ρ2) : XS F σ S H ρ σ2 S2 H2 ρ2 := by
  have no : ∀ {c : Addr}, H c ≠ none → ¬ OwnAt σ ρ c → ¬ OwnAt σ1 ρ1 c := fun {c} h n z => by
    rcases a.own c z with q | q
    · exact n q
    · exact h q
  refine ⟨a.same.trans b.same, fun c h => b.there c (a.there c h), fun c h h' n => b.stay c (a.there c h) (a.stay c h h' n) (no h n), fun c o h h' n => ?_, fun c h => ?_, fun i hi => (b.fix i hi).trans (a.fix i hi), fun i hi h => b.kind i hi (a.kind i hi h)⟩
  · have hc : H c ≠ none := by rw [h]; simp
    exact b.keep c o (a.keep c o h h' n) (a.stay c hc h' n) (no hc n)
  · rcases b.own c h with q | q
    · exact a.own c q
    · refine .inr ?_
      cases e : H c with
      | none => rfl
      | some o => exact absurd q (a.there c (by rw [e]; simp))
theorem Ext.xs (E : Ext σ S H ρ S1 H1 ρ1) : XS F σ S H ρ σ S1 H1 ρ1 := ⟨E.same, E.there, fun b h h' _ => E.stay b h h', E.keep, fun b h => .inl (E.at.mpr h), fun _ _ => rfl, fun i _ h => (E.kind i).mp h⟩
theorem XS.weak {F' : List Nat} (a : XS F' σ S H ρ σ1 S1 H1 ρ1) (h : ∀ i ∈ F, i ∈ F') : XS F σ S H ρ σ1 S1 H1 ρ1 := ⟨a.same, a.there, a.stay, a.keep, a.own, fun i hi => a.fix i (h i hi), fun i hi => a.kind i (h i hi)⟩
end
def RetR (new : Fs) (F : List Nat) (H S' H' : Hp) (σ' : L2.St) (ρ' : R) (v : V) (x : D) : Prop := ∃ as, OwnF S' H' new [v] [x] as ∧ as.Nodup ∧ ∀ a ∈ as, S' a = none ∧ ((∃ (i : Nat) (s : Sl), i ∉ F ∧ Ow ρ' i s ∧ σ'[i]? = some (some (.ref a))) ∨ H a = none)
theorem RetR.back {new : Fs} {F : List Nat} {H H0 S' H' : Hp} {σ' : L2.St} {ρ' : R} {v : V} {x : D} (h : RetR new F H S' H' σ' ρ' v x) (th : ∀ b, H0 b ≠ none → H b ≠ none) : RetR new F H0 S' H' σ' ρ' v x := by
  obtain ⟨as, h1, h2, h3⟩ := h
  refine ⟨as, h1, h2, fun a ha => ⟨(h3 a ha).1, ?_⟩⟩
  rcases (h3 a ha).2 with q | q
  · exact .inl q
  · refine .inr ?_
    cases e : H0 a with
    | none => rfl
    | some o => exact absurd q (th a (by rw [e]; simp))
theorem RetR.of {F : List Nat} {H S' H' : Hp} {σ' : L2.St} {ρ' : R} {v : V} {x : D} (h : Rp S' v x) : RetR false F H S' H' σ' ρ' v x := ⟨[], ⟨v, x, [], [], rfl, rfl, h, rfl, rfl, rfl⟩, by simp, fun _ h => by cases h⟩
theorem RetR.lst {F : List Nat} {H S' H' : Hp} {σ' : L2.St} {ρ' : R} {a : Addr} {ws : List V} {ds : List D} (h1 : S' a = none) (h2 : H' a = some (.lst ws)) (h3 : RpAll S' ws ds) (h4 : (∃ (i : Nat) (s : Sl), i ∉ F ∧ Ow ρ' i s ∧ σ'[i]? = some (some (.ref a))) ∨ H a = none) : RetR true F H S' H' σ' ρ' (.ref a) (.list ds) :=
  ⟨[a], ⟨a, ws, ds, [], [], [], rfl, rfl, rfl, h2, h3, rfl, rfl, rfl⟩, by simp, fun b hb => by
    rw [List.mem_singleton.mp hb]
    exact ⟨h1, h4⟩⟩
abbrev VS := R → (R → Prop) → (D → R → Prop) → Prop
def endsS (X : Cx) (new : Fs) (F : List Nat) (σ : L2.St) (S H : Hp) (ρ : R) (Qn : R → Prop) (Qr : D → R → Prop) : Ends where
  nx := fun σ' H' => ∃ S' ρ', Rel X.K (bd X) S' H' σ' ρ' ∧ XS F σ S H ρ σ' S' H' ρ' ∧ Qn ρ'
  rt := fun v H' => ∃ σ' S' ρ' x, Rel X.K (bd X) S' H' σ' ρ' ∧ XS F σ S H ρ σ' S' H' ρ' ∧ RetR new F H S' H' σ' ρ' v x ∧ Qr x ρ'
def JS (X : Cx) (new : Fs) (F : List Nat) (st : Stmt) (t : VS) : Prop := ∀ σ S H ρ Qn Qr, Rel X.K (bd X) S H σ ρ → t ρ Qn Qr → WS X st (endsS X new F σ S H ρ Qn Qr) σ H
def JSs (X : Cx) (new : Fs) (F : List Nat) (st : List Stmt) (t : VS) : Prop := ∀ σ S H ρ Qn Qr, Rel X.K (bd X) S H σ ρ → t ρ Qn Qr → WSs X st (endsS X new F σ S H ρ Qn Qr) σ H
theorem SP.mono {X : Cx} {pins : List (Addr × Obj)} {D D' : Ends} {f : Flow} {s : Shared} (h : SP X pins D f s) (h1 : ∀ σ H, D.nx σ H → D'.nx σ H) (h2 : ∀ v H, D.rt v H → D'.rt v H) (h3 : ∀ σ H, D.bk σ H → D'.bk σ H) (h4 : ∀ σ H, D.ct σ H → D'.ct σ H) : SP X pins D' f s := by
  cases f with
  | next => obtain ⟨σ', H', I, q⟩ := h; exact ⟨σ', H', I, h1 _ _ q⟩
  | brk => obtain ⟨σ', H', I, q⟩ := h; exact ⟨σ', H', I, h3 _ _ q⟩
  | cont => obtain ⟨σ', H', I, q⟩ := h; exact ⟨σ', H', I, h4 _ _ q⟩
  | ret u => obtain ⟨v, σ', H', I, r, q⟩ := h; exact ⟨v, σ', H', I, r, h2 _ _ q⟩
theorem WS.mono {X : Cx} {st : Stmt} {D D' : Ends} {σ : L2.St} {H : Hp} (h : WS X st D σ H) (h1 : ∀ σ H, D.nx σ H → D'.nx σ H) (h2 : ∀ v H, D.rt v H → D'.rt v H) (h3 : ∀ σ H, D.bk σ H → D'.bk σ H) (h4 : ∀ σ H, D.ct σ H → D'.ct σ H) : WS X st D' σ H := fun pins s I =>
  thn (h pins s I) fun _ _ q => SP.mono q h1 h2 h3 h4
theorem WSs.mono {X : Cx} {st : List Stmt} {D D' : Ends} {σ : L2.St} {H : Hp} (h : WSs X st D σ H) (h1 : ∀ σ H, D.nx σ H → D'.nx σ H) (h2 : ∀ v H, D.rt v H → D'.rt v H) (h3 : ∀ σ H, D.bk σ H → D'.bk σ H) (h4 : ∀ σ H, D.ct σ H → D'.ct σ H) : WSs X st D' σ H := fun pins s I =>
  thn (h pins s I) fun _ _ q => SP.mono q h1 h2 h3 h4
section
variable {X : Cx} {new : Fs} {F : List Nat} {σ σ1 : L2.St} {S H S1 H1 : Hp} {ρ ρ1 : R} {Qn : R → Prop} {Qr : D → R → Prop} {pos : Pos} {e a b : Expr}
/-- what is wanted later, from further on -/
theorem ends_nx (E : XS F σ S H ρ σ1 S1 H1 ρ1) {σ2 : L2.St} {H2 : Hp} (h : (endsS X new F σ1 S1 H1 ρ1 Qn Qr).nx σ2 H2) : (endsS X new F σ S H ρ Qn Qr).nx σ2 H2 := by
  obtain ⟨S', ρ', R', E', q⟩ := h
  exact ⟨S', ρ', R', E.trans E', q⟩
theorem ends_rt (E : XS F σ S H ρ σ1 S1 H1 ρ1) {Qn' : R → Prop} {v : V} {H2 : Hp} (h : (endsS X new F σ1 S1 H1 ρ1 Qn' Qr).rt v H2) : (endsS X new F σ S H ρ Qn Qr).rt v H2 := by
  obtain ⟨σ', S', ρ', x, R', E', r, q⟩ := h
  exact ⟨σ', S', ρ', x, R', E.trans E', r.back E.there, q⟩
/-! blocks -/
def tSNil : VS := fun ρ Qn _ => Qn ρ
def tSCons (t u : VS) : VS := fun ρ Qn Qr => t ρ (fun ρ1 => u ρ1 Qn Qr) Qr
theorem jss_nil : JSs X new F [] tSNil := fun σ S H ρ Qn Qr hR ht => WSs.of pss_nil ⟨S, ρ, hR, .refl, ht⟩
theorem jss_cons {st : Stmt} {sts : List Stmt} {t u : VS} (h1 : JS X new F st t) (h2 : JSs X new F sts u) : JSs X new F (st :: sts) (tSCons t u) := by
  intro σ S H ρ Qn Qr hR ht
  refine WSs.of (pss_cons psW pssW) ((h1 σ S H ρ _ Qr hR ht).mono (fun σ1 H1 q => ?_) (fun v H1 q => ?_) (fun _ _ q => q.elim) (fun _ _ q => q.elim))
  · obtain ⟨S1, ρ1, R1, E1, q⟩ := q
    exact (h2 σ1 S1 H1 ρ1 Qn Qr R1 q).mono (fun _ _ z => ends_nx E1 z) (fun _ _ z => ends_rt E1 z) (fun _ _ q => q.elim) (fun _ _ q => q.elim)
  · obtain ⟨σ', S', ρ', x, R', E', r, q⟩ := q
    exact ⟨σ', S', ρ', x, R', E', r, q⟩
theorem js_pass : JS X new F (.Pass pos) tSNil := fun σ S H ρ Qn Qr hR ht => WS.of ps_pass ⟨S, ρ, hR, .refl, ht⟩
/-! name = value -/
def tAsgV (i : Nat) (t : VT) : VS := fun ρ Qn _ => t ρ fun u ρ1 => match u with
  | .val d => Qn (ρ1.set i (.v d))
  | _ => False
theorem xs_set {i : Nat} {v : Option V} {s : Sl} (hi : i ∉ F) (hs : s.owns = false) : XS F σ S H ρ (σ.set i v) S H (ρ.set i s) := by
  refine ⟨Same.refl _, fun _ h => h, fun _ _ h _ => h, fun _ _ h _ _ => h, fun b z => .inl (own_set hs z), fun j hj => List.getElem?_set_ne fun z => hi (by rw [z]; exact hj), fun j hj h => ?_⟩
  · rw [List.getElem?_set_ne fun z => hi (by rw [z]; exact hj)]
    exact h
/-- a name may be stored to -/
structure Sn (X : Cx) (i : Nat) (x : Str) : Prop where
  n : X.N[i]? = some x
  l : Loc X.env.scope x
  f : X.fn x = true ∨ X.env.scope.names.lookup x = some .local
  b : i < bd X
theorem js_set {i : Nat} {x : Str} {pos' : Pos} {t : VT} (nd : X.N.Nodup) (hn : Sn X i x) (hi : i ∉ F) (h : JT X e t) (hs : swapsWith e (some (.Name x pos')) pos.line X.env = pure false) : JS X new F (.Assign [.Name x pos'] e pos) (tAsgV i t) := by
  intro σ S H ρ Qn Qr hR ht
  refine WS.of (ps_set nd hn.n hn.l peW hs hn.f) ((h σ S H ρ _ hR ht).mono fun v H1 q => ?_)
  obtain ⟨S1, ρ1, u, R1, E1, d1, q1⟩ := q
  split at q1
  · rename_i d
    exact ⟨S1, _, R1.setv hn.b d1, E1.xs.trans (xs_set hi rfl), q1⟩
  · exact q1.elim
/-! name = a new list, to be changed -/
def tAsgO (i : Nat) (t : VE) : VS := fun ρ Qn _ => t ρ fun x ρ1 => match x with
  | .list xs => Qn (ρ1.set i (.own xs))
  | _ => False
theorem Rel.setO {K : PySem.W.Frag} {B : Nat} {i : Nat} {c : Addr} {vs : List V} {xs : List D} (hi : i < B) (hR : Rel K B S H σ ρ) (E : Ext σ S H ρ S1 H1 ρ1) (hc0 : H c = none) (h : Rel K B S1 H1 σ ρ1) (hcs : S1 c = none) (hcl : H1 c = some (.lst vs)) (hd : RpAll S1 vs xs) : Rel K B S1 H1 (σ.set i (some (.ref c))) (ρ1.set i (.own xs)) := by
  have hc : ¬ OwnAt σ ρ1 c := fun z => own_new hR hc0 (E.at.mpr z)
  have oa : ∀ {b : Addr}, b ≠ c → OwnAt (σ.set i (some (.ref c))) (ρ1.set i (.own xs)) b → OwnAt σ ρ1 b := fun {b} hb ⟨m, us, hm, e⟩ => by
    rcases get_set hm.1 with ⟨rfl, q', hm'⟩ | ⟨n', q'⟩
    · rw [List.getElem?_set_self (by rw [h.len]; exact hm')] at e
      cases e
      exact absurd rfl hb
    · rw [List.getElem?_set_ne fun z => n' z.symm] at e
      exact ⟨m, us, ⟨q', hm.2⟩, e⟩
  refine ⟨by rw [List.length_set, List.length_set]; exact h.len, h.sub, fun j x hx => ?_, fun j zs hx => ?_, fun j k zs hx => ?_, fun j k s t b h1 h2 h3 h4 => ?_, ?_⟩
  · rcases get_set hx with ⟨rfl, q, _⟩ | ⟨n, q⟩
    · cases q
    · rw [List.getElem?_set_ne fun z => n z.symm]
      exact h.val j x q
  · rcases get_set hx with ⟨rfl, q, hi⟩ | ⟨n, q⟩
    · cases q
      exact ⟨c, vs, List.getElem?_set_self (by rw [h.len]; exact hi), hcs, hcl, hd⟩
    · rw [List.getElem?_set_ne fun z => n z.symm]
      exact h.own j zs q
  · rcases get_set hx with ⟨rfl, q, _⟩ | ⟨n, q⟩
    · cases q
    · have no : ∀ ys, ρ[j]? ≠ some (.own ys) := fun ys q' => by
        obtain ⟨zs', q''⟩ := (E.kind j).mp ⟨ys, q'⟩
        rw [q] at q''
        cases q''
      have e1 : ρ[j]? = some (.ro k zs) := by rw [← E.oth j no]; exact q
      obtain ⟨b, ws, b1, b2, b3⟩ := hR.ro j k zs e1
      refine ⟨b, ws, by rw [List.getElem?_set_ne fun z => n z.symm]; exact b1, b2.to (fun o q' nb => ?_) (fun hb z => E.at.mpr (oa (fun e => hb (by rw [e]; exact hc0)) z)), b3.mono E.same⟩
      cases hs : S b with
      | none => exact E.keep b o q' hs nb
      | some o2 =>
        have e2 := hR.sub _ _ hs
        rw [q'] at e2
        cases e2
        exact h.sub _ _ (E.same _ _ hs)
  · rcases get_set h1.1 with ⟨rfl, q, hj⟩ | ⟨n1, q1⟩
    · rcases get_set h2.1 with ⟨rfl, _, _⟩ | ⟨n2, q2⟩
      · rfl
      · rw [List.getElem?_set_self (by rw [h.len]; exact hj)] at h3
        cases h3
        rw [List.getElem?_set_ne fun z => n2 z.symm] at h4
        exact absurd ⟨k, t, ⟨q2, h2.2⟩, h4⟩ hc
    · rcases get_set h2.1 with ⟨rfl, _, hk⟩ | ⟨n2, q2⟩
      · rw [List.getElem?_set_self (by rw [h.len]; exact hk)] at h4
        cases h4
        rw [List.getElem?_set_ne fun z => n1 z.symm] at h3
        exact absurd ⟨j, s, ⟨q1, h1.2⟩, h3⟩ hc
      · rw [List.getElem?_set_ne fun z => n1 z.symm] at h3
        rw [List.getElem?_set_ne fun z => n2 z.symm] at h4
        exact h.sep _ _ _ _ b ⟨q1, h1.2⟩ ⟨q2, h2.2⟩ h3 h4
  · refine h.vir.to (fun j s q l => ?_) (fun m hm => List.getElem?_set_ne (by omega)) (fun _ _ _ _ _ _ _ q1 q2 => ⟨q1, q2⟩) (fun d e q1 q2 n => ⟨q2, q1, fun z => n (oa (fun e' => by rw [e', hcl] at q1; cases q1) z)⟩)
    rcases get_set q with ⟨rfl, q, _⟩ | ⟨n, q⟩
    · rw [q] at l; cases l
    · exact ⟨q, List.getElem?_set_ne fun z => n z.symm⟩
theorem xs_setO {i : Nat} {c : Addr} {xs : List D} (hi : i ∉ F) (E : Ext σ S H ρ S1 H1 ρ1) (hc : H c = none) : XS F σ S H ρ (σ.set i (some (.ref c))) S1 H1 (ρ1.set i (.own xs)) := by
  refine ⟨E.same, E.there, fun b h h' _ => E.stay b h h', E.keep, fun b ⟨j, ys, h1, h2⟩ => ?_, fun j hj => List.getElem?_set_ne fun z => hi (by rw [z]; exact hj), fun j hj h => ?_⟩
  · rcases get_set h1.1 with ⟨rfl, q, hj⟩ | ⟨n, q⟩
    · by_cases hl : j < σ.length
      · rw [List.getElem?_set_self hl] at h2
        cases h2
        exact .inr hc
      · rw [List.getElem?_eq_none (by rw [List.length_set]; omega)] at h2
        cases h2
    · rw [List.getElem?_set_ne fun z => n z.symm] at h2
      exact .inl (E.at.mpr ⟨j, ys, ⟨q, h1.2⟩, h2⟩)
  · rw [List.getElem?_set_ne fun z => hi (by rw [z]; exact hj)]
    exact (E.kind j).mp h
end
end WA

/-! WA10: statements, loops, defs. -/
namespace WA
open PySem PySem.Spec PyProof.Rows L2
section
variable {X : Cx} {new : Fs} {F : List Nat} {σ σ1 : L2.St} {S H S1 H1 : Hp} {ρ ρ1 : R} {Qn : R → Prop} {Qr : D → R → Prop} {pos : Pos} {e a b : Expr}
theorem js_setO {i : Nat} {x : Str} {pos' : Pos} {t : VE} (nd : X.N.Nodup) (hn : Sn X i x) (hi : i ∉ F) (h : JN X e t) (hs : swapsWith e (some (.Name x pos')) pos.line X.env = pure false) : JS X new F (.Assign [.Name x pos'] e pos) (tAsgO i t) := by
  intro σ S H ρ Qn Qr hR ht
  refine WS.of (ps_set nd hn.n hn.l peW hs hn.f) ((h σ S H ρ _ hR ht).mono fun v H1 q => ?_)
  obtain ⟨S1, ρ1, c, vs, xs, R1, E1, rfl, hc, hcs, hcl, hd, q⟩ := q
  exact ⟨S1, _, Rel.setO hn.b hR E1 hc R1 hcs hcl hd, xs_setO hi E1 hc, q⟩
/-! an own list is known from now on -/
theorem Rel.frz {K : PySem.W.Frag} {B : Nat} {j : Nat} {c : Addr} {vs : List V} {xs ys : List D} (h : Rel K B S H σ ρ) (ho : ρ[j]? = some (.own xs)) (ha : σ[j]? = some (some (.ref c))) (hl : H c = some (.lst vs)) (hd : RpAll S vs xs) : Rel K B (upd S c (.lst vs)) H σ (ρ.set j (.v (.list xs))) := by
  have hS : S c = none := (h.own_at ⟨j, _, ow ho, ha⟩).1
  have hj : j < ρ.length := (List.getElem?_eq_some_iff.mp ho).1
  have sm := same_upd (H := S) (p := c) (o := .lst vs) hS
  have oa : ∀ {b : Addr}, OwnAt σ (ρ.set j (.v (.list xs))) b → OwnAt σ ρ b := fun {b} ⟨m, us, hm, e⟩ => by
    rcases get_set hm.1 with ⟨rfl, q', _⟩ | ⟨n', q'⟩
    · have := hm.2
      rw [q'] at this; cases this
    · exact ⟨m, us, ⟨q', hm.2⟩, e⟩
  refine ⟨by rw [List.length_set]; exact h.len, fun b x e => ?_, fun i x hx => ?_, fun i zs hx => ?_, fun i k zs hx => ?_, fun i k s t b h1 h2 h3 h4 => ?_, ?_⟩
  · by_cases hb : b = c
    · subst hb
      rw [upd_same] at e
      cases e
      exact hl
    · rw [upd_ne hb] at e
      exact h.sub _ _ e
  · rcases get_set hx with ⟨rfl, q, _⟩ | ⟨n, q⟩
    · cases q
      exact ⟨_, ha, .lst upd_same (hd.mono sm)⟩
    · obtain ⟨w, a, b⟩ := h.val i x q
      exact ⟨w, a, b.mono sm⟩
  · rcases get_set hx with ⟨rfl, q, _⟩ | ⟨n, q⟩
    · cases q
    · obtain ⟨b, ws, b1, b2, b3, b4⟩ := h.own i zs q
      have nb : b ≠ c := fun z => n (h.sep i j _ _ b (ow q) (ow ho) b1 (by rw [z]; exact ha))
      exact ⟨b, ws, b1, by rw [upd_ne nb]; exact b2, b3, b4.mono sm⟩
  · rcases get_set hx with ⟨rfl, q, _⟩ | ⟨n, q⟩
    · cases q
    · obtain ⟨b, ws, b1, b2, b3⟩ := h.ro i k zs q
      exact ⟨b, ws, b1, b2.to (fun o e _ => e) (fun _ z => oa z), b3.mono sm⟩
  · rcases get_set h1.1 with ⟨_, q, _⟩ | ⟨n1, q1⟩
    · have := h1.2
      rw [q] at this; cases this
    · rcases get_set h2.1 with ⟨_, q, _⟩ | ⟨n2, q2⟩
      · have := h2.2
        rw [q] at this; cases this
      · exact h.sep _ _ _ _ b ⟨q1, h1.2⟩ ⟨q2, h2.2⟩ h3 h4
  · refine h.vir.to (fun m s q l => ?_) (fun _ _ => rfl) (fun m k is a u q1 q2 q3 q4 => ⟨?_, q4⟩) (fun d e q1 q2 n => ⟨by rw [upd_ne (fun z => by rw [z, hl] at q1; cases q1)]; exact q2, q1, fun z => n (oa z)⟩)
    · rcases get_set q with ⟨rfl, q, _⟩ | ⟨n, q⟩
      · rw [q] at l; cases l
      · exact ⟨q, rfl⟩
    · have n : m ≠ j := fun z => by rw [z, ho] at q1; cases q1
      rw [upd_ne (fun z => n (h.sep m j _ _ a ⟨q1, rfl⟩ (ow ho) q2 (by rw [z]; exact ha)))]
      exact q3
theorem xs_frz {K : PySem.W.Frag} {B : Nat} {j : Nat} {c : Addr} {vs : List V} {xs : List D} (h : Rel K B S H σ ρ) (hj : j ∉ F) (ho : ρ[j]? = some (.own xs)) (ha : σ[j]? = some (some (.ref c))) (hl : H c = some (.lst vs)) : XS F σ S H ρ σ (upd S c (.lst vs)) H (ρ.set j (.v (.list xs))) := by
  have hS : S c = none := (h.own_at ⟨j, _, ow ho, ha⟩).1
  refine ⟨same_upd hS, fun _ h => h, fun b _ hb n => ?_, fun _ _ h _ _ => h, fun b ⟨i, ys, h1, h2⟩ => ?_, fun _ _ => rfl, fun i hi h => ?_⟩
  · rw [upd_ne (fun z => n ⟨j, _, ow ho, by rw [z]; exact ha⟩)]
    exact hb
  · rcases get_set h1.1 with ⟨_, q, _⟩ | ⟨_, q⟩
    · have := h1.2
      rw [q] at this; cases this
    · exact .inl ⟨i, ys, ⟨q, h1.2⟩, h2⟩
  · rw [List.getElem?_set_ne fun z => hj (by rw [z]; exact hi)]
    exact h
/-- an own list is moved to another name -/
theorem Rel.mv {K : PySem.W.Frag} {B : Nat} {i j : Nat} {c : Addr} {xs : List D} (hi : i < B) (h : Rel K B S H σ ρ) (ho : ρ[j]? = some (.own xs)) (ha : σ[j]? = some (some (.ref c))) : Rel K B S H (σ.set i (some (.ref c))) ((ρ.set j .no).set i (.own xs)) := by
  obtain ⟨c', vs, e1, hS, hl, hd⟩ := h.own j xs ho
  rw [ha] at e1
  cases e1
  have out : ∀ {k : Nat} {s : Sl}, ((ρ.set j .no).set i (.own xs))[k]? = some s → s ≠ .no → (k = i ∧ s = .own xs ∧ i < ρ.length) ∨ (k ≠ i ∧ k ≠ j ∧ ρ[k]? = some s) := fun {k s} hx n => by
    rcases get_set hx with ⟨e, q, hi⟩ | ⟨n1, q⟩
    · rw [List.length_set] at hi
      exact .inl ⟨e, q, hi⟩
    · rcases get_set q with ⟨_, q, _⟩ | ⟨n2, q⟩
      · exact absurd q n
      · exact .inr ⟨n1, n2, q⟩
  have at_i : i < ρ.length → (σ.set i (some (.ref c)))[i]? = some (some (.ref c)) := fun hi => List.getElem?_set_self (by rw [h.len]; exact hi)
  have at_k : ∀ {k : Nat}, k ≠ i → (σ.set i (some (V.ref c)))[k]? = σ[k]? := fun {k} n => List.getElem?_set_ne fun z => n z.symm
  have oa : ∀ {b : Addr}, OwnAt (σ.set i (some (.ref c))) ((ρ.set j .no).set i (.own xs)) b → OwnAt σ ρ b := fun {b} ⟨m', us, hm, e⟩ => by
    rcases out hm.1 (fun z => by have := hm.2; rw [z] at this; cases this) with ⟨rfl, q', hi⟩ | ⟨n3, n4, q'⟩
    · rw [at_i hi] at e
      cases e
      exact ⟨j, _, ow ho, ha⟩
    · rw [at_k n3] at e
      exact ⟨m', us, ⟨q', hm.2⟩, e⟩
  refine ⟨by simp only [List.length_set]; exact h.len, h.sub, fun k x hx => ?_, fun k zs hx => ?_, fun k m zs hx => ?_, fun k m s t b h1 h2 h3 h4 => ?_, ?_⟩
  · rcases out hx (fun z => by cases z) with ⟨_, q, _⟩ | ⟨n1, n2, q⟩
    · cases q
    · rw [at_k n1]
      exact h.val k x q
  · rcases out hx (fun z => by cases z) with ⟨rfl, q, hi⟩ | ⟨n1, n2, q⟩
    · cases q
      exact ⟨c, vs, at_i hi, hS, hl, hd⟩
    · rw [at_k n1]
      exact h.own k zs q
  · rcases out hx (fun z => by cases z) with ⟨_, q, _⟩ | ⟨n1, n2, q⟩
    · cases q
    · obtain ⟨b, ws, b1, b2, b3⟩ := h.ro k m zs q
      exact ⟨b, ws, by rw [at_k n1]; exact b1, b2.to (fun o e _ => e) (fun _ z => oa z), b3⟩
  · rcases out h1.1 (fun z => by have := h1.2; rw [z] at this; cases this) with ⟨rfl, q1, hi⟩ | ⟨n1, n2, q1⟩
    · rcases out h2.1 (fun z => by have := h2.2; rw [z] at this; cases this) with ⟨rfl, q2, _⟩ | ⟨n3, n4, q2⟩
      · rfl
      · rw [at_i hi] at h3
        cases h3
        rw [at_k n3] at h4
        exact absurd (h.sep m j _ _ c ⟨q2, h2.2⟩ (ow ho) h4 ha) n4
    · rcases out h2.1 (fun z => by have := h2.2; rw [z] at this; cases this) with ⟨rfl, q2, hi⟩ | ⟨n3, n4, q2⟩
      · rw [at_i hi] at h4
        cases h4
        rw [at_k n1] at h3
        exact absurd (h.sep k j _ _ c ⟨q1, h1.2⟩ (ow ho) h3 ha) n2
      · rw [at_k n1] at h3
        rw [at_k n3] at h4
        exact h.sep _ _ _ _ b ⟨q1, h1.2⟩ ⟨q2, h2.2⟩ h3 h4
  · refine h.vir.to (fun m s q l => ?_) (fun m hm => at_k (by omega)) (fun _ _ _ _ _ _ _ q1 q2 => ⟨q1, q2⟩) (fun d e q1 q2 n => ⟨q2, q1, fun z => n (oa z)⟩)
    rcases out q (fun z => by rw [z] at l; cases l) with ⟨rfl, q1, hi⟩ | ⟨n1, n2, q1⟩
    · rw [q1] at l; cases l
    · exact ⟨q1, at_k n1⟩
theorem xs_mv {i j : Nat} {c : Addr} {xs : List D} (hl : σ.length = ρ.length) (hi : i ∉ F) (hj : j ∉ F) (ho : ρ[j]? = some (.own xs)) (ha : σ[j]? = some (some (.ref c))) : XS F σ S H ρ (σ.set i (some (.ref c))) S H ((ρ.set j .no).set i (.own xs)) := by
  refine ⟨Same.refl _, fun _ h => h, fun _ _ h _ => h, fun _ _ h _ _ => h, fun b ⟨k, ys, h1, h2⟩ => ?_, fun k hk => List.getElem?_set_ne fun z => hi (by rw [z]; exact hk), fun k hk h => ?_⟩
  · rcases get_set h1.1 with ⟨rfl, q, hk⟩ | ⟨n, q⟩
    · rw [List.length_set] at hk
      rw [List.getElem?_set_self (by rw [hl]; exact hk)] at h2
      cases h2
      exact .inl ⟨j, _, ow ho, ha⟩
    · rw [List.getElem?_set_ne fun z => n z.symm] at h2
      rcases get_set q with ⟨_, q, _⟩ | ⟨_, q⟩
      · have := h1.2
        rw [q] at this; cases this
      · exact .inl ⟨k, ys, ⟨q, h1.2⟩, h2⟩
  · rw [List.getElem?_set_ne fun z => hi (by rw [z]; exact hk), List.getElem?_set_ne fun z => hj (by rw [z]; exact hk)]
    exact h
/-- a read list is handed to another name -/
theorem Rel.cp {K : PySem.W.Frag} {B : Nat} {i j : Nat} {v : V} {k : Bool} {xs : List D} (hi : i < B) (h : Rel K B S H σ ρ) (ho : ρ[j]? = some (.ro k xs)) (ha : σ[j]? = some (some v)) : Rel K B S H (σ.set i (some v)) (ρ.set i (.ro k xs)) := by
  refine ⟨by simp only [List.length_set]; exact h.len, h.sub, fun m x hx => ?_, fun m zs hx => ?_, fun m l zs hx => ?_, fun m l s t b h1 h2 h3 h4 => sep_set rfl h h1 h2 h3 h4, h.vir.set hi rfl fun b z _ => own_set rfl z⟩
  · rcases get_set hx with ⟨_, q, _⟩ | ⟨n, q⟩
    · cases q
    · rw [List.getElem?_set_ne fun z => n z.symm]
      exact h.val m x q
  · rcases get_set hx with ⟨_, q, _⟩ | ⟨n, q⟩
    · cases q
    · rw [List.getElem?_set_ne fun z => n z.symm]
      exact h.own m zs q
  · have own' : ∀ {b : Addr}, OwnAt (σ.set i (some v)) (ρ.set i (.ro k xs)) b → OwnAt σ ρ b := fun {b} z => own_set rfl z
    rcases get_set hx with ⟨rfl, q, hi⟩ | ⟨n, q⟩
    · cases q
      obtain ⟨b, ws, b1, b2, b3⟩ := h.ro j k xs ho
      rw [ha] at b1
      cases b1
      exact ⟨b, ws, List.getElem?_set_self (by rw [h.len]; exact hi), b2.to (fun o e _ => e) (fun _ => own'), b3⟩
    · obtain ⟨b, ws, b1, b2, b3⟩ := h.ro m l zs q
      exact ⟨b, ws, by rw [List.getElem?_set_ne fun z => n z.symm]; exact b1, b2.to (fun o e _ => e) (fun _ => own'), b3⟩
/-- name = name: of a list -/
def tMv (own : Bool) (F : List Nat) (i j : Nat) : VS := fun ρ Qn _ => match ρ[j]? with
  | some (.v x) => Qn (ρ.set i (.v x))
  | some (.own xs) => F.contains j = false ∧ (match own with
      | true => Qn ((ρ.set j .no).set i (.own xs))
      | false => Qn ((ρ.set j (.v (.list xs))).set i (.v (.list xs))))
  | some (.ro k xs) => Qn (ρ.set i (.ro k xs))
  | _ => False
theorem nin_of {F : List Nat} {j : Nat} (h : F.contains j = false) : j ∉ F := fun z => by
  rw [List.contains_iff_mem.mpr z] at h
  cases h
theorem js_mv {own : Bool} {i j : Nat} {x y : Str} {pos' p : Pos} (nd : X.N.Nodup) (hn : Sn X i x) (hi : i ∉ F) (hy : Nm X j y) (hs : swapsWith (.Name y p) (some (.Name x pos')) pos.line X.env = pure false) : JS X new F (.Assign [.Name x pos'] (.Name y p) pos) (tMv own F i j) := by
  intro σ S H ρ Qn Qr hR ht
  refine WS.of (ps_set nd hn.n hn.l hy.pe hs hn.f) ?_
  unfold tMv at ht
  split at ht
  · rename_i x e
    obtain ⟨w, h1, h2⟩ := hR.val j x e
    exact ⟨w, h1, S, _, hR.setv hn.b h2, xs_set hi rfl, ht⟩
  · rename_i xs e
    obtain ⟨c, vs, h1, h2, h3, h4⟩ := hR.own j xs e
    obtain ⟨hF, ht⟩ := ht
    refine ⟨_, h1, ?_⟩
    cases own with
    | true => exact ⟨S, _, hR.mv hn.b e h1, xs_mv hR.len hi (nin_of hF) e h1, ht⟩
    | false =>
      have R1 := hR.frz (ys := xs) e h1 h3 h4
      exact ⟨_, _, R1.setv hn.b (.lst upd_same (h4.mono (same_upd h2))), (xs_frz hR (nin_of hF) e h1 h3).trans (xs_set hi rfl), ht⟩
  · rename_i k xs e
    obtain ⟨c, vs, h1, h2, h3⟩ := hR.ro j k xs e
    exact ⟨_, h1, S, _, hR.cp hn.b e h1, xs_set hi rfl, ht⟩
  · exact ht.elim
/-- ahead of a statement: an own list is known from now on -/
def tFrz (F : List Nat) (j : Nat) (t : VS) : VS := fun ρ Qn Qr => match ρ[j]? with
  | some (.own xs) => F.contains j = false ∧ t (ρ.set j (.v (.list xs))) Qn Qr
  | _ => False
theorem js_frz {j : Nat} {st : Stmt} {t : VS} (h : JS X new F st t) : JS X new F st (tFrz F j t) := by
  intro σ S H ρ Qn Qr hR ht
  unfold tFrz at ht
  split at ht
  · rename_i xs e
    obtain ⟨hF, ht⟩ := ht
    obtain ⟨c, vs, h1, h2, h3, h4⟩ := hR.own j xs e
    have E := xs_frz hR (nin_of hF) e h1 h3
    exact (h σ _ H _ Qn Qr (hR.frz (ys := xs) e h1 h3 h4) ht).mono (fun _ _ z => ends_nx E z) (fun _ _ z => ends_rt E z) (fun _ _ q => q) (fun _ _ q => q)
  · exact ht.elim
/-! several names = a tuple -/
def putN : R → List Nat → List D → Option R
  | ρ, [], [] => some ρ
  | ρ, i :: is, x :: xs => putN (ρ.set i (.v x)) is xs
  | _, _, _ => none
def tAsgT (is : List Nat) (t : VT) : VS := fun ρ Qn _ => t ρ fun u ρ1 => match deref ρ1 u with
  | some (.tuple xs) => match putN ρ1 is xs with
    | some ρ2 => Qn ρ2
    | none => False
  | _ => False
def gNames : List Nat → TGs
  | [] => gNil
  | i :: is => gCons (gName i) (gNames is)
theorem names_ok {K : PySem.W.Frag} {B : Nat} {Q : L2.St → Hp → Prop} : ∀ {is : List Nat} {vs : List V} {xs : List D} {σ : L2.St} {ρ ρ2 : R}, (∀ i ∈ is, i ∉ F) → (∀ i ∈ is, i < B) → Rel K B S H σ ρ → RpAll S vs xs → putN ρ is xs = some ρ2 →
    (∀ σ2, Rel K B S H σ2 ρ2 → XS F σ S H ρ σ2 S H ρ2 → Q σ2 H) → gNames is vs σ H Q
  | [], _, _, σ, ρ, ρ2, _, _, R, .nil, h, q => by
    cases h
    exact ⟨rfl, q σ R .refl⟩
  | [], _, _, _, _, _, _, _, _, .cons _ _, h, _ => by cases h
  | _ :: _, _, _, _, _, _, _, _, _, .nil, h, _ => by cases h
  | i :: is, _, _, σ, ρ, ρ2, hF, hB, R, .cons d ds, h, q =>
    ⟨_, _, rfl, names_ok (fun j hj => hF j (List.mem_cons_of_mem _ hj)) (fun j hj => hB j (List.mem_cons_of_mem _ hj)) (R.setv (hB i List.mem_cons_self) d) ds h fun σ2 R2 E => q σ2 R2 ((xs_set (hF i List.mem_cons_self) rfl).trans E)⟩
theorem js_asgT {is : List Nat} {tg : Expr} {t : VT} (h : JT X e t) (hg : PG X tg (gTup X.K is.length (gNames is))) (hF : ∀ i ∈ is, i ∉ F) (hB : (is.all fun i => decide (i < bd X)) = true) (hs : swapsWithSole [tg] e pos.line X.env = pure false) (hw : swappedStores [tg] e X.env = pure none)
    (h1 : (assignEach [tg] X.env).map (·.2) = [assign tg X.env]) : JS X new F (.Assign [tg] e pos) (tAsgT is t) := by
  intro σ S H ρ Qn Qr hR ht
  refine WS.of (ps_asg peW hg hs hw h1) ((h σ S H ρ _ hR ht).mono fun v H1 q => ?_)
  obtain ⟨S1, ρ1, u, R1, E1, d1, q1⟩ := q
  split at q1
  · rename_i xs ex
    obtain ⟨p, vs, rfl, hp, hd⟩ := d1.tup ex
    split at q1
    · rename_i ρ2 e2
      have len : ∀ {is : List Nat} {xs : List D} {ρ ρ2 : R}, putN ρ is xs = some ρ2 → is.length = xs.length := fun {is} => by
        induction is with
        | nil => intro xs ρ ρ2 h; cases xs with
          | nil => rfl
          | cons _ _ => cases h
        | cons i is ih => intro xs ρ ρ2 h; cases xs with
          | nil => cases h
          | cons x xs => exact congrArg (· + 1) (ih h)
      exact ⟨p, vs, rfl, .of (R1.sub _ _ hp), by rw [rps_len hd, len e2], names_ok hF (fun i hi => of_decide_eq_true (List.all_eq_true.mp hB i hi)) R1 hd e2 fun σ2 R2 E2 => ⟨S1, ρ2, R2, E1.xs.trans E2, q1⟩⟩
    · exact q1.elim
  · exact q1.elim
/-! name op= value -/
inductive AOp where
  | add | sub
def AOp.op : AOp → Operator
  | .add => .Add
  | .sub => .Sub
def AOp.f : AOp → Int → Int → Int
  | .add => fun i j => i + j
  | .sub => fun i j => i - j
theorem AOp.ip (o : AOp) : PIp X o.op (ipI o.f) := by
  cases o
  · exact ip_add
  · exact ip_sub
def tAugV (o : AOp) (i : Nat) (t : VT) : VS := fun ρ Qn _ => match ρ[i]? with
  | some (.v (.int x)) => t ρ fun u ρ1 => match deref ρ1 u with
    | some (.int y) => Qn (ρ1.set i (.v (.int (o.f x y))))
    | _ => False
  | _ => False
theorem js_aug {o : AOp} {i : Nat} {x : Str} {pos' : Pos} {t : VT} (nd : X.N.Nodup) (hn : Sn X i x) (hi : i ∉ F) (h : JT X e t) : JS X new F (.AugAssign (.Name x pos') o.op e pos) (tAugV o i t) := by
  intro σ S H ρ Qn Qr hR ht
  refine WS.of (ps_aug nd hn.n hn.l peW o.ip hn.f) ?_
  unfold tAugV at ht
  split at ht
  · rename_i y ey
    obtain ⟨w, w1, w2⟩ := hR.val i _ ey
    cases w2
    refine ⟨_, w1, (h σ S H ρ _ hR ht).mono fun v H1 q => ?_⟩
    obtain ⟨S1, ρ1, u, R1, E1, d1, q1⟩ := q
    split at q1
    · rename_i z ez
      exact ⟨_, _, rfl, d1.int ez, S1, _, R1.setv hn.b (.int _), E1.xs.trans (xs_set hi rfl), q1⟩
    · exact q1.elim
  · exact ht.elim
/-! xs[k] = value, xs[k] += value -/
def tSetIx (i : Nat) (tk tv : VT) : VS := fun ρ Qn _ => tv ρ fun u ρ1 => isOwn ρ1 i ∧ tk ρ1 fun w ρ2 => match u, deref ρ2 w, ρ2[i]? with
  | .val d, some (.int k), some (.own xs) => ∃ j, ixN xs.length k = some j ∧ Qn (ρ2.set i (.own (xs.set j d)))
  | _, _, _ => False
theorem js_setIx {i : Nat} {x : Str} {p pos' : Pos} {k : Expr} {tk tv : VT} (hn : Nm X i x) (hk : JT X k tk) (hv : JT X e tv) (hs : swapsWithSole [.Subscript (.Name x p) k pos'] e pos.line X.env = pure false) (hw : swappedStores [.Subscript (.Name x p) k pos'] e X.env = pure none)
    (h1 : (assignEach [.Subscript (.Name x p) k pos'] X.env).map (·.2) = [assign (.Subscript (.Name x p) k pos') X.env])
    (ha : ∀ v, assign (.Subscript (.Name x p) k pos') X.env v = (do
      let ov ← holding [v] (eval (.Name x p) X.env)
      let iv ← holding [v, ov] (eval k X.env)
      standAt pos'
      holding [v, ov, iv] (setItem ov iv v)
      release [v, ov, iv] [])) : JS X new F (.Assign [.Subscript (.Name x p) k pos'] e pos) (tSetIx i tk tv) := by
  intro σ S H ρ Qn Qr hR ht
  refine WS.of (ps_asg peW (pg_sub hn.pe peW set_list ha) hs hw h1) ((hv σ S H ρ _ hR ht).mono fun v H1 q => ?_)
  obtain ⟨S1, ρ1, u, R1, E1, d1, ⟨zs, hz⟩, q1⟩ := q
  obtain ⟨c0, vs0, ho, _⟩ := R1.own i zs hz
  have go : W X k σ H1 fun y H2 => ∀ o, σ[i]? = some (some o) → rSetL o y v H2 fun H3 => (endsS X new F σ S H ρ Qn Qr).nx σ H3 := by
    refine (hk σ S1 H1 ρ1 _ R1 q1).mono fun y H2 q => ?_
    obtain ⟨S2, ρ2, w, R2, E2, d2, q2⟩ := q
    split at q2
    · rename_i _ _ _ d kk xs ek ex
      obtain ⟨c, vs, c1, c2, c3, c4⟩ := R2.own i xs ex
      obtain ⟨j, ej, q2⟩ := q2
      intro o ho
      rw [c1] at ho
      cases ho
      have d1 : Rp S1 v d := d1
      refine ⟨c, vs, kk, j, rfl, d2.int ek, c3, by rw [rps_len c4]; exact ej, S2, _, R2.put ex c1 (rps_set j c4 (d1.mono E2.same)), ((E1.trans E2).trans (Ext.put R2 ex c1)).xs, q2⟩
    · exact q2.elim
  exact ⟨_, ho, go.mono fun y H2 q => q _ ho⟩
end
end WA

/-! WA11: if, return, for, while; defs. -/
namespace WA
open PySem PySem.Spec PyProof.Rows L2
section
variable {X : Cx} {new : Fs} {F : List Nat} {σ σ1 : L2.St} {S H S1 H1 : Hp} {ρ ρ1 : R} {Qn : R → Prop} {Qr : D → R → Prop} {pos : Pos} {e a b : Expr}
/-! expressions as statements, returns -/
def tExp (t : VT) : VS := fun ρ Qn _ => t ρ fun _ ρ1 => Qn ρ1
theorem js_exp {t : VT} (h : JT X e t) (hs : swapsWith e none pos.line X.env = pure false) : JS X new F (.Expr e pos) (tExp t) := by
  intro σ S H ρ Qn Qr hR ht
  refine WS.of (ps_expr peW hs) ((h σ S H ρ _ hR ht).mono fun v H1 q => ?_)
  obtain ⟨S1, ρ1, u, R1, E1, d1, q1⟩ := q
  exact ⟨S1, ρ1, R1, E1.xs, q1⟩
def tRetV (t : VT) : VS := fun ρ _ Qr => t ρ fun u ρ1 => match u with
  | .val d => Qr d ρ1
  | _ => False
theorem js_retV {t : VT} (h : JT X e t) : JS X false F (.Return (some e) pos) (tRetV t) := by
  intro σ S H ρ Qn Qr hR ht
  refine WS.of (ps_ret peW) ((h σ S H ρ _ hR ht).mono fun v H1 q => ?_)
  obtain ⟨S1, ρ1, u, R1, E1, d1, q1⟩ := q
  split at q1
  · rename_i d
    exact ⟨σ, S1, ρ1, d, R1, E1.xs, .of d1, q1⟩
  · exact q1.elim
/-- return of a new list -/
def tRetN (t : VE) : VS := fun ρ _ Qr => t ρ fun x ρ1 => Qr x ρ1
theorem js_retN {t : VE} (h : JN X e t) : JS X true F (.Return (some e) pos) (tRetN t) := by
  intro σ S H ρ Qn Qr hR ht
  refine WS.of (ps_ret peW) ((h σ S H ρ _ hR ht).mono fun v H1 q => ?_)
  obtain ⟨S1, ρ1, c, vs, xs, R1, E1, rfl, hc, hcs, hcl, hd, q⟩ := q
  exact ⟨σ, S1, ρ1, .list xs, R1, E1.xs, .lst hcs hcl hd (.inr hc), q⟩
/-- return of an own list -/
def tRetO (F : List Nat) (i : Nat) : VS := fun ρ _ Qr => match ρ[i]? with
  | some (.own xs) => F.contains i = false ∧ Qr (.list xs) ρ
  | _ => False
theorem js_retO {i : Nat} {x : Str} {p : Pos} (hn : Nm X i x) : JS X true F (.Return (some (.Name x p)) pos) (tRetO F i) := by
  intro σ S H ρ Qn Qr hR ht
  unfold tRetO at ht
  split at ht
  · rename_i xs e
    obtain ⟨hF, ht⟩ := ht
    obtain ⟨c, vs, h1, h2, h3, h4⟩ := hR.own i xs e
    exact WS.of (ps_ret hn.pe) ⟨_, h1, σ, S, ρ, .list xs, hR, .refl, .lst h2 h3 h4 (.inl ⟨i, _, nin_of hF, ow e, h1⟩), ht⟩
  · exact ht.elim
/-- return of an own list as a value -/
def tRetF (F : List Nat) (i : Nat) : VS := fun ρ _ Qr => match ρ[i]? with
  | some (.own xs) => F.contains i = false ∧ Qr (.list xs) (ρ.set i (.v (.list xs)))
  | _ => False
/-! if -/
def tIf (c : VC) (t u : VS) : VS := fun ρ Qn Qr => c ρ fun k ρ1 => (k = true → t ρ1 Qn Qr) ∧ (k = false → u ρ1 Qn Qr)
theorem js_if {c : Expr} {p q : List Stmt} {tc : VC} {t u : VS} (hc : JC X c tc) (hp : JSs X new F p t) (hq : JSs X new F q u) : JS X new F (.If c p q pos) (tIf tc t u) := by
  intro σ S H ρ Qn Qr hR ht
  refine WS.of (ps_if ptW pssW pssW) ((hc σ S H ρ _ hR ht).mono fun k H1 q => ?_)
  obtain ⟨S1, ρ1, R1, E1, q1⟩ := q
  cases k with
  | true => exact (hp σ S1 H1 ρ1 Qn Qr R1 (q1.1 rfl)).mono (fun _ _ z => ends_nx E1.xs z) (fun _ _ z => ends_rt E1.xs z) (fun _ _ q => q) (fun _ _ q => q)
  | false => exact (hq σ S1 H1 ρ1 Qn Qr R1 (q1.2 rfl)).mono (fun _ _ z => ends_nx E1.xs z) (fun _ _ z => ends_rt E1.xs z) (fun _ _ q => q) (fun _ _ q => q)
/-! for -/
def forLoop (tg : Tg) (gs : List (Nat × List D)) (body : VS) : List (List D) → R → (R → Prop) → (D → R → Prop) → Prop
  | [], ρ, Qn, _ => guardR gs ρ ∧ Qn ρ
  | x :: xs, ρ, Qn, Qr => guardR gs ρ ∧ match putT ρ tg x with
    | some ρ1 => body ρ1 (fun ρ2 => forLoop tg gs body xs ρ2 Qn Qr) Qr
    | none => False
def tFor (F' : List Nat) (tg : Tg) (ti : VI) (body : VS) : VS := fun ρ Qn Qr => ti ρ fun its gs ρ1 => ((gs.all fun p => F'.contains p.1) && (tg.ix.all fun i => !F'.contains i)) = true ∧ forLoop tg gs body its ρ1 Qn Qr
theorem endsS_weak {F F' : List Nat} (hF : ∀ i ∈ F, i ∈ F') {v : V} {H2 : Hp} {Qn' : R → Prop} (h : (endsS X new F' σ S H ρ Qn' Qr).rt v H2) : (endsS X new F σ S H ρ Qn Qr).rt v H2 := by
  obtain ⟨σ', S', ρ', x, R', E', r, q⟩ := h
  refine ⟨σ', S', ρ', x, R', E'.weak hF, ?_, q⟩
  obtain ⟨as, h1, h2, h3⟩ := r
  refine ⟨as, h1, h2, fun a ha => ⟨(h3 a ha).1, ?_⟩⟩
  rcases (h3 a ha).2 with ⟨i, ys, hi, z⟩ | z
  · exact .inl ⟨i, ys, fun m => hi (hF i m), z⟩
  · exact .inr z
/-- the target is stored -/
theorem xs_put {K : PySem.W.Frag} {B : Nat} {tg : Tg} {v : V} {H' : Hp} {x : List D} {ρ1 : R} {Q : L2.St → Hp → Prop} (hB : ∀ i ∈ tg.ix, i < B) (hF : ∀ i ∈ tg.ix, i ∉ F) (R : Rel K B S H σ ρ) (it : ItemR S H tg.pair v H' x) (hp : putT ρ tg x = some ρ1)
    (h : ∀ σ1, Rel K B S H' σ1 ρ1 → XS F σ S H ρ σ1 S H' ρ1 → Q σ1 H') : gT K tg v σ H' Q := by
  refine tgt_ok R it hp hB fun σ1 R1 ho hl => h σ1 R1 ?_
  obtain ⟨pl, po, pn⟩ := putT_out hp
  have E0 : Ext σ S H ρ S H' ρ := by
    generalize tg.pair = pr at it
    cases it with
    | one _ => exact .refl
    | two hT _ => exact .new0 R hT
  refine ⟨E0.same, E0.there, fun b h h' _ => E0.stay b h h', E0.keep, fun b ⟨i, ys, h1, h2⟩ => ?_, fun i hi => ho i fun z => hF i z hi, fun i hi h => ?_⟩
  · by_cases hi : i ∈ tg.ix
    · have := pn i ys hi h1.1
      rw [h1.2] at this; cases this
    · have g := h1.1
      rw [po i hi] at g
      rw [ho i hi] at h2
      exact .inl ⟨i, ys, ⟨g, h1.2⟩, h2⟩
  · rw [po i fun z => hF i z hi]
    exact h
theorem js_for {F' : List Nat} {tgE iter : Expr} {body : List Stmt} {tg : Tg} {ti : VI} {tb : VS} (hB : (tg.ix.all fun i => decide (i < bd X)) = true) (hp : PassesOwn (model X.prog X.w) X.A X.env X.xe) (hc : X.calm = true) (hi : JI X tg.pair tgE iter ti) (hg : PG X tgE (gT X.K tg)) (hb : JSs X new F' body tb) (hF : ∀ i ∈ F, i ∈ F')
    (hs : ∀ x, foldedSetIterable iter X.env x = pure x) : JS X new F (.For tgE iter body [] pos) (tFor F' tg ti tb) := by
  intro σ S H ρ Qn Qr hR ht
  refine WS.of (ps_for hp hc piW hg pssW hs) ((hi σ S H ρ _ hR ht).mono fun J H1 q => ?_)
  obtain ⟨S1, ρ1, its, gs, as, R1, E1, Sv, L, hgs, hl⟩ := q
  rw [Bool.and_eq_true] at hgs
  obtain ⟨hgs, htg⟩ := hgs
  have hgs' : ∀ p ∈ gs, p.1 ∈ F' := fun p hp => List.contains_iff_mem.mp (List.all_eq_true.mp hgs p hp)
  have htg' : ∀ i ∈ tg.ix, i ∉ F' := fun i hi => by
    have z := List.all_eq_true.mp htg i hi
    intro hm
    rw [List.contains_iff_mem.mpr hm] at z
    cases z
  refine ⟨fun i m σc Hc => m = its.length - i ∧ i ≤ its.length ∧ ∃ S' ρ', Rel X.K (bd X) S' Hc σc ρ' ∧ XS F' σ S1 H1 ρ1 σc S' Hc ρ' ∧ forLoop tg gs tb (its.drop i) ρ' Qn Qr,
    ⟨its.length, by simp, Nat.zero_le _, S1, ρ1, R1, .refl, hl⟩, ?_⟩
  rintro i m σc Hc ⟨rfl, hle, S', ρ', R', E', hl⟩
  by_cases hlt : i < its.length
  · rw [List.drop_eq_getElem_cons hlt] at hl
    obtain ⟨hg, hl⟩ := hl
    obtain ⟨_, hsv⟩ := Sv S' Hc (linked_now L R' E'.same hg fun p hp => E'.fix _ (hgs' p hp))
    obtain ⟨hgo, hy⟩ := hsv i its[i] (List.getElem?_eq_getElem hlt)
    refine .inr ⟨hgo, fun σn Hn => ∃ S' ρ', Rel X.K (bd X) S' Hn σn ρ' ∧ XS F' σ S1 H1 ρ1 σn S' Hn ρ' ∧ forLoop tg gs tb (its.drop (i + 1)) ρ' Qn Qr, fun σn Hn hn => ⟨its.length - (i + 1), by omega, rfl, hlt, hn⟩, fun x H' y => ?_⟩
    split at hl
    · rename_i ρp hput
      refine xs_put (fun i hi => of_decide_eq_true (List.all_eq_true.mp hB i hi)) htg' R' (hy x H' y) hput fun σ2 R2 E2 => ?_
      refine (hb σ2 S' H' ρp _ Qr R2 hl).mono (fun σ3 H3 q => ?_) (fun v H3 q => ?_) (fun _ _ q => q.elim) (fun _ _ q => q.elim)
      · obtain ⟨S3, ρ3, R3, E3, q⟩ := q
        exact ⟨S3, ρ3, R3, (E'.trans E2).trans E3, q⟩
      · exact ends_rt (Qn := Qn) E1.xs (endsS_weak (Qn := Qn) hF (ends_rt (Qn := Qn) (E'.trans E2) q))
    · exact hl.elim
  · have e : i = its.length := by omega
    subst e
    rw [List.drop_length] at hl
    obtain ⟨hg, hl⟩ := hl
    obtain ⟨hst, _⟩ := Sv S' Hc (linked_now L R' E'.same hg fun p hp => E'.fix _ (hgs' p hp))
    exact .inl ⟨hst, S', ρ', R', E1.xs.trans (E'.weak hF), hl⟩
/-! while -/
def tWhl (c : VC) (tb : VS) : VS := fun ρ Qn Qr => ∃ I : Nat → R → Prop, (∃ m, I m ρ) ∧ ∀ m ρ', I m ρ' → c ρ' fun k ρ1 => (k = true → tb ρ1 (fun ρ2 => ∃ m', m' < m ∧ I m' ρ2) Qr) ∧ (k = false → Qn ρ1)
theorem js_while {c : Expr} {body : List Stmt} {tc : VC} {tb : VS} (hp : PassesOwn (model X.prog X.w) X.A X.env X.xe) (hc : JC X c tc) (hb : JSs X new F body tb) : JS X new F (.While c body [] pos) (tWhl tc tb) := by
  intro σ S H ρ Qn Qr hR ht
  obtain ⟨I, ⟨m0, h0⟩, turn⟩ := ht
  refine WS.of (ps_while hp ptW pssW) ⟨fun m σc Hc => ∃ S' ρ', Rel X.K (bd X) S' Hc σc ρ' ∧ XS F σ S H ρ σc S' Hc ρ' ∧ I m ρ', ⟨m0, S, ρ, hR, .refl, h0⟩, ?_⟩
  rintro m σc Hc ⟨S', ρ', R', E', hI⟩
  refine (hc σc S' Hc ρ' _ R' (turn m ρ' hI)).mono fun k H1 q => ?_
  obtain ⟨S1, ρ1, R1, E1, q1⟩ := q
  cases k with
  | true =>
    refine ⟨fun σn Hn => ∃ m', m' < m ∧ ∃ S' ρ', Rel X.K (bd X) S' Hn σn ρ' ∧ XS F σ S H ρ σn S' Hn ρ' ∧ I m' ρ', fun σn Hn ⟨m', h1, h2⟩ => ⟨m', h1, h2⟩, ?_⟩
    refine (hb σc S1 H1 ρ1 _ Qr R1 (q1.1 rfl)).mono (fun σ3 H3 q => ?_) (fun v H3 q => ?_) (fun _ _ q => q.elim) (fun _ _ q => q.elim)
    · obtain ⟨S3, ρ3, R3, E3, m', hm, q⟩ := q
      exact ⟨m', hm, S3, ρ3, R3, (E'.trans E1.xs).trans E3, q⟩
    · exact ends_rt (Qn := Qn) (E'.trans E1.xs) q
  | false => exact ⟨S1, ρ1, R1, E'.trans E1.xs, q1.2 rfl⟩
end
/-! ### a def keeps its promise -/
def ini : List Md → List D → Option R
  | [], [] => some []
  | .val :: ms, x :: xs => (ini ms xs).map (.v x :: ·)
  | .ro :: ms, .list l :: xs => (ini ms xs).map (.ro false l :: ·)
  | .rs :: ms, .list l :: xs => (ini ms xs).map (.ro true l :: ·)
  | .own :: ms, .list l :: xs => (ini ms xs).map (.own l :: ·)
  | _, _ => none
def ownFrom : List Md → Nat → List Nat
  | [], _ => []
  | .own :: ms, i => i :: ownFrom ms (i + 1)
  | _ :: ms, i => ownFrom ms (i + 1)
def outs (ρ' : R) : List Nat → List (List D) → Prop := Paired fun i ys => ρ'[i]? = some (.own ys)
section
variable {K : PySem.W.Frag} {S H : Hp}
structure IniOk (K : PySem.W.Frag) (S H : Hp) (ms : List Md) (vs : List V) (os rs : List Addr) (ρ : R) : Prop where
  len : vs.length = ρ.length
  val : ∀ (i : Nat) (x : D), ρ[i]? = some (.v x) → ∃ w, vs[i]? = some w ∧ Rp S w x
  own : ∀ (i : Nat) (xs : List D), ρ[i]? = some (.own xs) → ∃ (a : Addr) (ws : List V), vs[i]? = some (.ref a) ∧ a ∈ os ∧ S a = none ∧ H a = some (.lst ws) ∧ RpAll S ws xs
  ro : ∀ (i : Nat) (k : Bool) (xs : List D), ρ[i]? = some (.ro k xs) → ∃ (a : Addr) (ws : List V), vs[i]? = some (.ref a) ∧ ((k = false ∧ KL K a ws) ∨ (a ∈ rs ∧ ∃ o, (o = HO.lst ws ∨ (k = false ∧ ∃ ob, o = .frz ob (.lst ws))) ∧ H a = some o)) ∧ RpAll S ws xs
  sep : os.Nodup → ∀ (i j : Nat) (xs ys : List D) (a : Addr), ρ[i]? = some (.own xs) → ρ[j]? = some (.own ys) → vs[i]? = some (.ref a) → vs[j]? = some (.ref a) → i = j
  at_ : ∀ d : Nat, Paired (fun (i : Nat) (a : Addr) => d ≤ i ∧ vs[i - d]? = some (.ref a) ∧ ∃ ys, ρ[i - d]? = some (.own ys)) (ownFrom ms d) os
theorem paired_shift {vs : List V} {ρ : R} {v : V} {s : Sl} {d : Nat} {is : List Nat} {os : List Addr} (h : Paired (fun (i : Nat) (a : Addr) => d + 1 ≤ i ∧ vs[i - (d + 1)]? = some (.ref a) ∧ ∃ ys, ρ[i - (d + 1)]? = some (.own ys)) is os) :
    Paired (fun (i : Nat) (a : Addr) => d ≤ i ∧ (v :: vs)[i - d]? = some (.ref a) ∧ ∃ ys, (s :: ρ)[i - d]? = some (.own ys)) is os := Paired.mapP h fun i a ⟨h1, h2, ys, h3⟩ => by
  have e : i - d = (i - (d + 1)) + 1 := by omega
  exact ⟨by omega, by rw [e]; exact h2, ys, by rw [e]; exact h3⟩
theorem ini_ok : ∀ {ms : List Md} {vs : List V} {xs : List D} {os rs : List Addr}, ArgsR K S H ms vs xs os rs → ∃ ρ, ini ms xs = some ρ ∧ IniOk K S H ms vs os rs ρ
  | _, _, _, _, _, .nil => ⟨[], rfl, rfl, fun i x h => by simp at h, fun i x h => by simp at h, fun i k x h => by simp at h, fun _ i j x y a h => by simp at h, fun d => .nil⟩
  | _, _, _, _, _, .val (v := v) (x := x) r t => by
    obtain ⟨ρ, h, I⟩ := ini_ok t
    refine ⟨.v x :: ρ, by rw [ini, h]; rfl, by simp [I.len], fun i y h => ?_, fun i y h => ?_, fun i k y h => ?_, fun hn i j y z a h1 h2 h3 h4 => ?_, fun d => paired_shift (I.at_ (d + 1))⟩
    · cases i with
      | zero => simp at h; subst h; exact ⟨v, rfl, r⟩
      | succ i => exact I.val i y (by simpa using h)
    · cases i with
      | zero => simp at h
      | succ i => exact I.own i y (by simpa using h)
    · cases i with
      | zero => simp at h
      | succ i => exact I.ro i k y (by simpa using h)
    · cases i with
      | zero => simp at h1
      | succ i =>
        cases j with
        | zero => simp at h2
        | succ j => exact congrArg (· + 1) (I.sep hn i j y z a (by simpa using h1) (by simpa using h2) (by simpa using h3) (by simpa using h4))
  | _, _, _, _, _, .ro (rs := rs) (a := c) (ws := ws) (ds := ds) (o := o) ho hH r t => by
    obtain ⟨ρ, h, I⟩ := ini_ok t
    refine ⟨.ro false ds :: ρ, by rw [ini, h]; rfl, by simp [I.len], fun i y h => ?_, fun i y h => ?_, fun i k y h => ?_, fun hn i j y z a h1 h2 h3 h4 => ?_, fun d => paired_shift (I.at_ (d + 1))⟩
    · cases i with
      | zero => simp at h
      | succ i => exact I.val i y (by simpa using h)
    · cases i with
      | zero => simp at h
      | succ i => exact I.own i y (by simpa using h)
    · cases i with
      | zero =>
        simp at h
        obtain ⟨rfl, rfl⟩ := h
        exact ⟨c, ws, rfl, .inr ⟨List.mem_cons_self, o, ho.imp _root_.id fun z => ⟨rfl, z⟩, hH⟩, r⟩
      | succ i =>
        obtain ⟨a, w, h1, h2, h3⟩ := I.ro i k y (by simpa using h)
        exact ⟨a, w, h1, h2.imp _root_.id fun z => ⟨List.mem_cons_of_mem _ z.1, z.2⟩, h3⟩
    · cases i with
      | zero => simp at h1
      | succ i =>
        cases j with
        | zero => simp at h2
        | succ j => exact congrArg (· + 1) (I.sep hn i j y z a (by simpa using h1) (by simpa using h2) (by simpa using h3) (by simpa using h4))
  | _, _, _, _, _, .kl (a := c) (ws := ws) (ds := ds) hk r t => by
    obtain ⟨ρ, h, I⟩ := ini_ok t
    refine ⟨.ro false ds :: ρ, by rw [ini, h]; rfl, by simp [I.len], fun i y h => ?_, fun i y h => ?_, fun i k y h => ?_, fun hn i j y z a h1 h2 h3 h4 => ?_, fun d => paired_shift (I.at_ (d + 1))⟩
    · cases i with
      | zero => simp at h
      | succ i => exact I.val i y (by simpa using h)
    · cases i with
      | zero => simp at h
      | succ i => exact I.own i y (by simpa using h)
    · cases i with
      | zero =>
        simp at h
        obtain ⟨rfl, rfl⟩ := h
        exact ⟨c, ws, rfl, .inl ⟨rfl, hk⟩, r⟩
      | succ i => exact I.ro i k y (by simpa using h)
    · cases i with
      | zero => simp at h1
      | succ i =>
        cases j with
        | zero => simp at h2
        | succ j => exact congrArg (· + 1) (I.sep hn i j y z a (by simpa using h1) (by simpa using h2) (by simpa using h3) (by simpa using h4))
  | _, _, _, _, _, .rs (rs := rs) (a := c) (ws := ws) (ds := ds) hH r t => by
    obtain ⟨ρ, h, I⟩ := ini_ok t
    refine ⟨.ro true ds :: ρ, by rw [ini, h]; rfl, by simp [I.len], fun i y h => ?_, fun i y h => ?_, fun i k y h => ?_, fun hn i j y z a h1 h2 h3 h4 => ?_, fun d => paired_shift (I.at_ (d + 1))⟩
    · cases i with
      | zero => simp at h
      | succ i => exact I.val i y (by simpa using h)
    · cases i with
      | zero => simp at h
      | succ i => exact I.own i y (by simpa using h)
    · cases i with
      | zero =>
        simp at h
        obtain ⟨rfl, rfl⟩ := h
        exact ⟨c, ws, rfl, .inr ⟨List.mem_cons_self, _, .inl rfl, hH⟩, r⟩
      | succ i =>
        obtain ⟨a, w, h1, h2, h3⟩ := I.ro i k y (by simpa using h)
        exact ⟨a, w, h1, h2.imp _root_.id fun z => ⟨List.mem_cons_of_mem _ z.1, z.2⟩, h3⟩
    · cases i with
      | zero => simp at h1
      | succ i =>
        cases j with
        | zero => simp at h2
        | succ j => exact congrArg (· + 1) (I.sep hn i j y z a (by simpa using h1) (by simpa using h2) (by simpa using h3) (by simpa using h4))
  | _, _, _, _, _, .own (os := os) (a := c) (ws := ws) (ds := ds) hS hH r t => by
    obtain ⟨ρ, h, I⟩ := ini_ok t
    refine ⟨.own ds :: ρ, by rw [ini, h]; rfl, by simp [I.len], fun i y h => ?_, fun i y h => ?_, fun i k y h => ?_, fun hn i j y z a h1 h2 h3 h4 => ?_, fun d => .cons ⟨Nat.le_refl _, by simp, ds, by simp⟩ (paired_shift (I.at_ (d + 1)))⟩
    · cases i with
      | zero => simp at h
      | succ i => exact I.val i y (by simpa using h)
    · cases i with
      | zero =>
        simp at h
        subst h
        exact ⟨c, ws, rfl, List.mem_cons_self, hS, hH, r⟩
      | succ i =>
        obtain ⟨a, w, h1, h2, h3⟩ := I.own i y (by simpa using h)
        exact ⟨a, w, h1, List.mem_cons_of_mem _ h2, h3⟩
    · cases i with
      | zero => simp at h
      | succ i => exact I.ro i k y (by simpa using h)
    · rw [List.nodup_cons] at hn
      cases i with
      | zero =>
        cases j with
        | zero => rfl
        | succ j =>
          simp at h3
          subst h3
          obtain ⟨a', w, e1, e2, _⟩ := I.own j z (by simpa using h2)
          rw [List.getElem?_cons_succ] at h4
          rw [h4] at e1
          cases e1
          exact absurd e2 hn.1
      | succ i =>
        cases j with
        | zero =>
          simp at h4
          subst h4
          obtain ⟨a', w, e1, e2, _⟩ := I.own i y (by simpa using h1)
          rw [List.getElem?_cons_succ] at h3
          rw [h3] at e1
          cases e1
          exact absurd e2 hn.1
        | succ j => exact congrArg (· + 1) (I.sep hn.2 i j y z a (by simpa using h1) (by simpa using h2) (by simpa using h3) (by simpa using h4))
theorem get_app_no {ρ : R} {k i : Nat} {s : Sl} (h : (ρ ++ List.replicate k Sl.no)[i]? = some s) (n : s ≠ .no) : ρ[i]? = some s := by
  by_cases hi : i < ρ.length
  · rw [List.getElem?_append_left hi] at h
    exact h
  · rw [List.getElem?_append_right (by omega), List.getElem?_replicate] at h
    split at h
    · cases h
      exact absurd rfl n
    · cases h
theorem get_app_V {vs : List V} {k i : Nat} {v : V} (h : vs[i]? = some v) : (vs.map some ++ List.replicate k (none : Option V))[i]? = some (some v) := by
  have hi : i < vs.length := (List.getElem?_eq_some_iff.mp h).1
  rw [List.getElem?_append_left (by rw [List.length_map]; exact hi), List.getElem?_map, h]
  rfl
theorem get_app_V' {vs : List V} {k i : Nat} {v : V} (h : (vs.map some ++ List.replicate k (none : Option V))[i]? = some (some v)) : vs[i]? = some v := by
  by_cases hi : i < vs.length
  · rw [List.getElem?_append_left (by rw [List.length_map]; exact hi), List.getElem?_map] at h
    cases e : vs[i]? with
    | none => rw [e] at h; cases h
    | some w => rw [e] at h; cases h; rfl
  · rw [List.getElem?_append_right (by rw [List.length_map]; omega), List.getElem?_replicate] at h
    split at h <;> cases h
theorem ini_plain : ∀ {ms : List Md} {xs : List D} {ρ : R}, ini ms xs = some ρ → ∀ s ∈ ρ, s.leans = false
  | [], [], _, h => by
    cases h
    intro s hs
    cases hs
  | [], _ :: _, _, h => by cases h
  | m :: ms, [], _, h => by cases m <;> cases h
  | m :: ms, x :: xs, ρ, h => by
    have key : ∀ t : Sl, t.leans = false → (ini ms xs).map (t :: ·) = some ρ → ∀ s ∈ ρ, s.leans = false := fun t ht h => by
      cases q : ini ms xs with
      | none => rw [q] at h; cases h
      | some ρ' =>
        rw [q] at h
        cases h
        intro s hs
        rcases List.mem_cons.mp hs with rfl | hs
        · exact ht
        · exact ini_plain q s hs
    cases m with
    | val => exact key (.v x) rfl h
    | ro =>
      cases x with
      | list l => exact key (.ro false l) rfl h
      | _ => cases h
    | rs =>
      cases x with
      | list l => exact key (.ro true l) rfl h
      | _ => cases h
    | own =>
      cases x with
      | list l => exact key (.own l) rfl h
      | _ => cases h
theorem owns_own {s : Sl} (h : s.owns = true) (h2 : s.leans = false) : ∃ xs, s = .own xs := by
  cases s with
  | own xs => exact ⟨xs, rfl⟩
  | st k is => cases h2
  | _ => cases h
theorem IniOk.rel {B : Nat} {ms : List Md} {vs : List V} {os rs : List Addr} {ρ : R} (hp : ∀ s ∈ ρ, s.leans = false) (I : IniOk K S H ms vs os rs ρ) (hS : Same S H) (hn : os.Nodup) (hr : ∀ a ∈ rs, a ∉ os) (k : Nat) : Rel K B S H (vs.map some ++ List.replicate k none) (ρ ++ List.replicate k .no) := by
  have pl : ∀ {i : Nat} {s : Sl}, (ρ ++ List.replicate k .no)[i]? = some s → s.leans = false := fun {i s} h => by
    rcases List.mem_append.mp (List.mem_of_getElem? h) with z | z
    · exact hp s z
    · rw [(List.mem_replicate.mp z).2]; rfl
  refine ⟨by simp [I.len], hS, fun i x h => ?_, fun i xs h => ?_, fun i b xs h => ?_, fun i j s t a h1 h2 h3 h4 => ?_, ⟨fun i k is h => ?_, fun i j h => ?_, fun i C fs is a d us h => ?_⟩⟩
  · obtain ⟨w, h1, h2⟩ := I.val i x (get_app_no h (fun z => by cases z))
    exact ⟨w, get_app_V h1, h2⟩
  · obtain ⟨a, ws, h1, h2, h3, h4, h5⟩ := I.own i xs (get_app_no h (fun z => by cases z))
    exact ⟨a, ws, get_app_V h1, h3, h4, h5⟩
  · obtain ⟨a, ws, h1, h2, h3⟩ := I.ro i b xs (get_app_no h (fun z => by cases z))
    refine ⟨a, ws, get_app_V h1, ?_, h3⟩
    rcases h2 with q | ⟨q1, o, q2, q3⟩
    · exact .inl q
    · refine .inr ⟨⟨o, q2, q3⟩, fun ⟨j, s, z1, z2⟩ => ?_⟩
      obtain ⟨ys, rfl⟩ := owns_own z1.2 (pl z1.1)
      obtain ⟨a', ws', e1, e2, _⟩ := I.own j ys (get_app_no z1.1 (fun z => by cases z))
      rw [get_app_V' z2] at e1
      cases e1
      exact hr a q1 e2
  · obtain ⟨xs, rfl⟩ := owns_own h1.2 (pl h1.1)
    obtain ⟨ys, rfl⟩ := owns_own h2.2 (pl h2.1)
    exact I.sep hn i j xs ys a (get_app_no h1.1 (fun z => by cases z)) (get_app_no h2.1 (fun z => by cases z)) (get_app_V' h3) (get_app_V' h4)
  · have := pl h
    cases this
  · have := pl h
    cases this
  · have := pl h
    cases this
theorem ArgsR.len {ms : List Md} {vs : List V} {xs : List D} {os rs : List Addr} (h : ArgsR K S H ms vs xs os rs) : vs.length = ms.length := by
  induction h <;> simp [*]
end
/-- what is to be shown in plain terms of a def: from its promise, of its body's reading -/
def Plain (f : FSpec) (n : Nat) (t : VS) : Prop := ∀ xs ρ, f.pre xs → ini f.modes xs = some ρ →
  t (ρ ++ List.replicate (n - f.modes.length) .no) (fun ρ' => f.new = false ∧ ∃ yss, f.post xs .none yss ∧ outs ρ' (ownFrom f.modes 0) yss) (fun x ρ' => ∃ yss, f.post xs x yss ∧ outs ρ' (ownFrom f.modes 0) yss)
section
variable {P : Program} {w : World} {K : PySem.W.Frag} {mg : Str → Option Value} {base : Heap}
theorem fn_core {X : Cx} {N : List Str} {f : FSpec} {t : VS} {sts : List Stmt} {vs : List V} {H : Hp} {Q : VK} {E : XK} (body : JSs X f.new (ownFrom f.modes 0) sts t) (plain : Plain f N.length t) (h : spOf X.K f vs H Q E) :
    WSs X sts { nx := fun _ H' => Q .non H', rt := Q } (start N vs) H := by
  obtain ⟨S, xs, os, rs, hS, A1, hn, hro, hpre, q⟩ := h
  obtain ⟨ρ, hi, I⟩ := ini_ok A1
  have hl : vs.length = f.modes.length := A1.len
  have R0 := I.rel (B := bd X) (ini_plain hi) hS hn hro (N.length - f.modes.length)
  have p := plain xs ρ hpre hi
  have est : L2.start N vs = vs.map some ++ List.replicate (N.length - f.modes.length) none := by rw [L2.start, hl]
  rw [est]
  have at0 := I.at_ 0
  have ownS : ∀ {b : Addr}, OwnAt (vs.map some ++ List.replicate (N.length - f.modes.length) (none : Option V)) (ρ ++ List.replicate (N.length - f.modes.length) .no) b → ∃ i ∈ ownFrom f.modes 0, b ∈ os ∧ vs[i]? = some (.ref b) := fun {b} ⟨i, sl, h1, h2⟩ => by
    have hpl : sl.leans = false := by
      rcases List.mem_append.mp (List.mem_of_getElem? h1.1) with z | z
      · exact ini_plain hi sl z
      · rw [(List.mem_replicate.mp z).2]; rfl
    obtain ⟨ys, rfl⟩ := owns_own h1.2 hpl
    obtain ⟨a', ws', e1, e2, _⟩ := I.own i ys (get_app_no h1.1 (fun z => by cases z))
    rw [get_app_V' h2] at e1
    cases e1
    obtain ⟨j, hj, _, e4, ys', e5⟩ := paired_mem at0 b e2
    exact ⟨j, hj, e2, by simpa using e4⟩
  have fin : ∀ {yss : List (List D)} {σ' : L2.St} {S' H' : Hp} {ρ' : R}, Rel X.K (bd X) S' H' σ' ρ' → XS (ownFrom f.modes 0) (vs.map some ++ List.replicate (N.length - f.modes.length) (none : Option V)) S H (ρ ++ List.replicate (N.length - f.modes.length) .no) σ' S' H' ρ' → outs ρ' (ownFrom f.modes 0) yss → CExt S H os S' H' ∧ OwnsR S' H' os yss := fun {yss σ' S' H' ρ'} R' E' ho => by
    have own' : ∀ {i : Nat} {a : Addr}, i ∈ ownFrom f.modes 0 → vs[i]? = some (.ref a) → σ'[i]? = some (some (.ref a)) := fun {i a} hi ha => by
      rw [E'.fix i hi]
      exact get_app_V ha
    refine ⟨⟨R'.sub, E'.same, E'.there, fun b hb hs => ?_, fun b o hb hs hn' => E'.keep b o hb hs fun z => ?_⟩, ?_⟩
    · by_cases z : OwnAt (vs.map some ++ List.replicate (N.length - f.modes.length) (none : Option V)) (ρ ++ List.replicate (N.length - f.modes.length) .no) b
      · obtain ⟨i, hi, _, hv⟩ := ownS z
        obtain ⟨ys, _, hy⟩ := paired_mem' ho i hi
        obtain ⟨a', ws', e1, e2, _⟩ := R'.own i ys hy
        rw [own' hi hv] at e1
        cases e1
        exact e2
      · exact E'.stay b hb hs z
    · obtain ⟨i, hi, hb', _⟩ := ownS z
      exact hn' hb'
    · have go : ∀ {is : List Nat} {as : List Addr} {zs : List (List D)}, (∀ i ∈ is, i ∈ ownFrom f.modes 0) → Paired (fun (i : Nat) (a : Addr) => 0 ≤ i ∧ vs[i - 0]? = some (.ref a) ∧ ∃ ys, ρ[i - 0]? = some (.own ys)) is as → Paired (fun (i : Nat) ys => ρ'[i]? = some (Sl.own ys)) is zs → OwnsR S' H' as zs := fun {is} => by
        induction is with
        | nil =>
          intro as zs _ h1 h2
          cases h1
          cases h2
          exact .nil
        | cons i is ih =>
          intro as zs hm h1 h2
          cases h1 with
          | cons r1 t1 =>
            cases h2 with
            | cons r2 t2 =>
              refine .cons ?_ (ih (fun j hj => hm j (List.mem_cons_of_mem _ hj)) t1 t2)
              obtain ⟨a', ws', e1, e2, e3, e4⟩ := R'.own i _ r2
              rw [own' (hm i List.mem_cons_self) (by simpa using r1.2.1)] at e1
              cases e1
              exact ⟨ws', e3, e4⟩
      exact go (fun _ h => h) at0 ho
  refine (body _ S H _ _ _ R0 p).mono (fun σ' H' z => ?_) (fun v H' z => ?_) (fun _ _ q => q.elim) (fun _ _ q => q.elim)
  · obtain ⟨S', ρ', R', E', hnew, yss, hpost, ho⟩ := z
    obtain ⟨C, O⟩ := fin R' E' ho
    refine q .none yss hpost .non S' H' C O ?_
    rw [hnew]
    exact .of .non
  · obtain ⟨σ', S', ρ', x', R', E', rr, yss, hpost, ho⟩ := z
    obtain ⟨C, O⟩ := fin R' E' ho
    refine q x' yss hpost v S' H' C O ?_
    obtain ⟨as, g1, g2, g3⟩ := rr
    refine ⟨as, g1, g2, fun a ha => ⟨?_, (g3 a ha).1⟩⟩
    rcases (g3 a ha).2 with ⟨i, s, hi, hy, hv⟩ | z
    · rcases E'.own a ⟨i, _, hy, hv⟩ with z | z
      · obtain ⟨j, hj, _, hv'⟩ := ownS z
        obtain ⟨zs, _, hz⟩ := paired_mem' ho j hj
        have hs : σ'[j]? = some (some (.ref a)) := by
          rw [E'.fix j hj]
          exact get_app_V hv'
        exact absurd (R'.sep i j _ _ a hy (ow hz) hv hs ▸ hj) hi
      · exact z
    · exact z
theorem fn_ok {x qual : Str} {st : Stmt} {c : Addr} {fd : FuncData} {N ps : List Str} {k : Nat} {f : FSpec} {t : VS} (Fn : FunD K x qual (defArgs st) (defBody st) (defScope st) [] [] c fd) (Sc : FnScope N ps (defScope st)) (hlen : f.modes.length = ps.length)
    (body : ∀ (cdv : Value) (A : Around) (outer : List Env) (s : Shared) (H : Hp) (E : XK), Room k (A.deeper (envOfC qual (defScope st) s.heap.objs.size c cdv)) → JSs (cxOf CX0 P w K mg base N qual (defScope st) c cdv A outer s H E).nox f.new (ownFrom f.modes 0) (defBody st) t)
    (plain : Plain f N.length t) : FnOk P w K mg base CX0 (k + 1) c fd ps (spOf K f) := by
  refine Fn.ok Sc (fun vs H Q E h => ?_) (fun cdv A outer s H vs Q E hr h => ?_)
  · obtain ⟨S, xs, os, rs, hS, A1, _⟩ := h
    rw [A1.len, hlen]
  · exact ⟨_, PSs.nox pssW, fn_core (body cdv A outer s H E hr) plain h⟩
end
end WA

/-! WA12: name = [.. for ..], xs[k] += v; short words for derivations. -/
namespace WA
open PySem PySem.Spec PyProof.Rows L2
section
variable {X : Cx} {new : Fs} {F : List Nat} {σ : L2.St} {S H : Hp} {ρ : R}
theorem postN_E {Q : D → R → Prop} (hR : Rel X.K (bd X) S H σ ρ) {v : V} {H1 : Hp} (q : PostN X σ S H ρ Q v H1) : PostE X σ S H ρ Q v H1 := by
  obtain ⟨S1, ρ1, a, vs, xs, R1, E1, rfl, ha, hs, hl, hd, q⟩ := q
  have hn : ¬ OwnAt σ ρ1 a := fun z => own_new hR ha (E1.at.mpr z)
  refine ⟨upd S1 a (.lst vs), ρ1, .list xs, R1.know hl hn hs rfl, ⟨E1.same.trans (same_upd hs), E1.there, fun b hb h0 => ?_, E1.keep, E1.kind, E1.oth⟩, .lst upd_same (hd.mono (same_upd hs)), q⟩
  rw [upd_ne (fun z => hb (by rw [z]; exact ha))]
  exact E1.stay b hb h0
variable {pos spos py : Pos} {y : Str} {i : Nat} {elt tgE iter : Expr} {ifs : List Expr} {scope : Scope} {tg : Tg} {ti : VI} {tc : VC} {te : VT}
theorem js_lcO {own : List (Str × Nat)} (hb : (tg.ix.all fun i => decide (i < bd X)) = true) (hib : i < bd X) (hc : X.calm = true) (hN : X.N.Nodup) (hy : X.N[i]? = some y) (hyl : X.env.scope.names.lookup y = some .local) (hi : i ∉ F) (hsw : swapsWith (.ListComp elt [⟨tgE, iter, ifs, 0⟩] scope pos) (some (.Name y py)) spos.line X.env = pure true)
    (ok : BlkOk X.N X.env.scope scope own) (ho : own.map (·.2) = tg.ix) (hj : JI X tg.pair tgE iter ti) (hg : InBlk X scope fun Y => PG Y tgE (gT X.K tg)) (ht : InBlk X scope fun Y => JTs Y ifs tc) (he : InBlk X scope fun Y => JT Y elt te) (hs : ∀ x, foldedSetIterable iter X.env x = pure x) :
    JS X new F (.Assign [.Name y py] (.ListComp elt [⟨tgE, iter, ifs, 0⟩] scope pos) spos) (tAsgO i (tLcV tg ti tc te)) := by
  intro σ S H ρ Qn Qr hR h
  have hr := lc_read (Q' := fun v H' => gName i v σ H' (endsS X new F σ S H ρ Qn Qr).nx) hb hj ht he hR h fun v H1 q => by
    obtain ⟨S1, ρ1, c, vs, xs, R1, E1, rfl, hc, hcs, hcl, hd, q⟩ := q
    exact ⟨S1, _, Rel.setO hib hR E1 hc R1 hcs hcl hd, xs_setO hi E1 hc, q⟩
  rw [← ho] at hr
  exact WS.of (ps_setLc hc hN hy hyl hsw piW ok hg (fun s H C cl fp => ⟨fun pins s' σ' H' Q I q => q s H C cl fp pins s' I⟩) (fun s H C cl fp => ⟨fun pins s' σ' H' Q I q => q s H C cl fp pins s' I⟩) hs) hr
theorem js_lcV {own : List (Str × Nat)} (hb : (tg.ix.all fun i => decide (i < bd X)) = true) (hib : i < bd X) (hc : X.calm = true) (hN : X.N.Nodup) (hy : X.N[i]? = some y) (hyl : X.env.scope.names.lookup y = some .local) (hi : i ∉ F) (hsw : swapsWith (.ListComp elt [⟨tgE, iter, ifs, 0⟩] scope pos) (some (.Name y py)) spos.line X.env = pure true)
    (ok : BlkOk X.N X.env.scope scope own) (ho : own.map (·.2) = tg.ix) (hj : JI X tg.pair tgE iter ti) (hg : InBlk X scope fun Y => PG Y tgE (gT X.K tg)) (ht : InBlk X scope fun Y => JTs Y ifs tc) (he : InBlk X scope fun Y => JT Y elt te) (hs : ∀ x, foldedSetIterable iter X.env x = pure x) :
    JS X new F (.Assign [.Name y py] (.ListComp elt [⟨tgE, iter, ifs, 0⟩] scope pos) spos) (tAsgV i (vT (tLcV tg ti tc te))) := by
  intro σ S H ρ Qn Qr hR h
  have h : tLcV tg ti tc te ρ fun x ρ1 => Qn (ρ1.set i (.v x)) := h
  have hr := lc_read (Q' := fun v H' => gName i v σ H' (endsS X new F σ S H ρ Qn Qr).nx) hb hj ht he hR h fun v H1 q => by
    obtain ⟨S1, ρ1, x, R1, E1, d1, q1⟩ := postN_E hR q
    exact ⟨S1, _, R1.setv hib d1, E1.xs.trans (xs_set hi rfl), q1⟩
  rw [← ho] at hr
  exact WS.of (ps_setLc hc hN hy hyl hsw piW ok hg (fun s H C cl fp => ⟨fun pins s' σ' H' Q I q => q s H C cl fp pins s' I⟩) (fun s H C cl fp => ⟨fun pins s' σ' H' Q I q => q s H C cl fp pins s' I⟩) hs) hr
end
/-! xs[k] += v -/
section
variable {X : Cx} {new : Fs} {F : List Nat} {pos : Pos} {e : Expr}
def rGetL (K : PySem.W.Frag) : V → V → Hp → VK → Prop := fun x y H Q => ∃ p xs i v, x = .ref p ∧ y = .int i ∧ SqL K H p xs ∧ atI xs i = some v ∧ Q v H
theorem get_list : PGet X (rGetL X.K) := by
  intro pins s σ H x y v u Q I rx ry h
  obtain ⟨p, xs, i, z, rfl, rfl, hq, he, q⟩ := h
  cases rx
  obtain ⟨t, rfl⟩ := ry
  obtain ⟨its, r, pl, hz⟩ := I.list hq
  obtain ⟨j, h1, h2, h3, h4, h5⟩ := atI_get he
  obtain ⟨w, ew, rw'⟩ := r.get h2
  have hl := r.length
  have hn := line63
  have fin : EP X pins σ Q w s := ⟨z, H, I, rw', q⟩
  by_cases h0 : 0 ≤ i
  · have hj : i.toNat = j := by
      rw [seqIndex_of h0 h5] at h1
      exact Option.some.inj h1
    exact wpAny_getItem_list pl.isList h0 (by omega) (by rw [hj]; simpa using ew) fin
  · have hj : (i + (its.toArray.size : Int)).toNat = j := by
      rw [seqIndex_neg (by omega) h4] at h1
      rw [List.size_toArray, ← hl]
      exact Option.some.inj h1
    exact wpAny_getItem_list_neg pl.isList (by omega) (by rw [List.size_toArray] <;> omega) (by omega) (by rw [hj]; simpa using ew) fin
/-- xs[k] op= v -/
def tAugIx (o : AOp) (i : Nat) (tk tv : VT) : VS := fun ρ Qn _ => isOwn ρ i ∧ tk ρ fun w ρ1 => match deref ρ1 w, ρ1[i]? with
  | some (.int k), some (.own xs) => ∃ j x, ixN xs.length k = some j ∧ xs[j]? = some (.int x) ∧ tv ρ1 fun u ρ2 => match deref ρ2 u, ρ2[i]? with
    | some (.int z), some (.own ys) => ys.length = xs.length ∧ Qn (ρ2.set i (.own (ys.set j (.int (o.f x z)))))
    | _, _ => False
  | _, _ => False
theorem js_augIx {o : AOp} {i : Nat} {x : Str} {p pos' : Pos} {k : Expr} {tk tv : VT} (hn : Nm X i x) (hk : JT X k tk) (hv : JT X e tv)
    (ha : ∀ ov iv new, augStore k ov iv new = (do holding [new, ov, iv] (setItem ov iv new); release [new, ov, iv] []; pure .next)) : JS X new F (.AugAssign (.Subscript (.Name x p) k pos') o.op e pos) (tAugIx o i tk tv) := by
  intro σ S H ρ Qn Qr hR ht
  obtain ⟨⟨zs, hz⟩, ht⟩ := ht
  obtain ⟨c, vs0, ho, _⟩ := hR.own i zs hz
  refine WS.of (ps_augS hn.pe peW get_list peW o.ip set_list ha) ⟨_, ho, (hk σ S H ρ _ hR ht).mono fun y H1 q => ?_⟩
  obtain ⟨S1, ρ1, w, R1, E1, d1, q1⟩ := q
  split at q1
  · rename_i kk xs ek ex
    obtain ⟨c', vs, c1, c2, c3, c4⟩ := R1.own i xs ex
    rw [ho] at c1
    cases c1
    obtain ⟨j, z0, ej, ez, q1⟩ := q1
    obtain ⟨v0, hv0, hr0⟩ := rps_get c4 ez
    refine ⟨c, vs, kk, v0, rfl, d1.int ek, .of c3, ?_, (hv σ S1 H1 ρ1 _ R1 q1).mono fun v H2 q => ?_⟩
    · unfold atI
      rw [rps_len c4, ej]
      exact hv0
    · cases hr0
      obtain ⟨S2, ρ2, u, R2, E2, d2, q2⟩ := q
      split at q2
      · rename_i z ys ez' ey
        obtain ⟨c'', ws, e1, e2, e3, e4⟩ := R2.own i ys ey
        rw [ho] at e1
        cases e1
        obtain ⟨hlen, q2⟩ := q2
        refine ⟨_, _, rfl, d2.int ez', c, ws, kk, j, rfl, d1.int ek, e3, by rw [rps_len e4, hlen]; exact ej, S2, _, R2.put ey ho (rps_set j e4 (.int _)), ((E1.trans E2).trans (Ext.put R2 ey ho)).xs, q2⟩
      · exact q2.elim
  · exact q1.elim
end
/-! ### short words -/
section
variable {X : Cx}
theorem nm (i : Nat) {x : Str} (hN : X.N[i]? = some x := by rfl) (hv : Vis X.env.scope x := by first | exact Or.inl rfl | exact Or.inr (Or.inl rfl) | exact Or.inr (Or.inr rfl)) (hd : (x == ("__debug__" : Str)) = false := by decide)
    (hcd : (x == ("__classdict__" : Str)) = false := by decide) : Nm X i x := ⟨hN, hv, hd, hcd⟩
theorem sn (i : Nat) {x : Str} (hN : X.N[i]? = some x := by rfl) (hl : Loc X.env.scope x := by first | exact Or.inl rfl | exact Or.inr rfl) (hf : X.fn x = true ∨ X.env.scope.names.lookup x = some .local := by first | exact .inl rfl | exact .inr rfl) (hb : decide (i < bd X) = true := by rfl) : Sn X i x := ⟨hN, hl, hf, of_decide_eq_true hb⟩
theorem va (i : Nat) {x : Str} {pos : Pos} (hN : X.N[i]? = some x := by rfl) (hv : Vis X.env.scope x := by first | exact Or.inl rfl | exact Or.inr (Or.inl rfl) | exact Or.inr (Or.inr rfl)) (hd : (x == ("__debug__" : Str)) = false := by decide)
    (hcd : (x == ("__classdict__" : Str)) = false := by decide) : JT X (.Name x pos) (tvar i) := jt_var hN hv hd hcd
theorem pg1 (i : Nat) {x : Str} {pos : Pos} (nd : X.N.Nodup) (hi : X.N[i]? = some x := by rfl) (hx : Loc X.env.scope x := by first | exact Or.inl rfl | exact Or.inr rfl) (hf : X.fn x = true ∨ X.env.scope.names.lookup x = some .local := by first | exact .inl rfl | exact .inr rfl) : PG X (.Name x pos) (gT X.K (.one i)) := pg_name nd hi hx hf
theorem pg2 {e1 e2 : Expr} {k : Nat} {pos : Pos} (i j : Nat) (hc : X.calm = true) (h1 : PG X e1 (gT X.K (.one i))) (h2 : PG X e2 (gT X.K (.one j)))
    (hs1 : (assignEach [e1, e2] X.env).map (·.2) = assign e1 X.env :: (assignEach [e2] X.env).map (·.2) := by rfl) (hs2 : (assignEach [e2] X.env).map (·.2) = assign e2 X.env :: (assignEach [] X.env).map (·.2) := by rfl)
    (hn : (assignEach [e1, e2] X.env).length = 2 := by rfl) (hst : (assignEach [e1, e2] X.env).findIdx? (·.1) = none := by rfl) : PG X (.Tuple [e1, e2] k pos) (gT X.K (.two i j)) :=
  pg_tup hc (pgs_cons h1 (pgs_cons h2 pgs_nil hs2) hs1) hn hst
end
/-- Known, from facts that hold in every body -/
structure KnownF (P : Program) (w : World) (K : PySem.W.Frag) (mg : Str → Option Value) (base : Heap) (lvl : Nat) (f : FSpec) : Prop where
  ok : ∃ (a : Addr) (fd : FuncData) (ps : List Str), FnOk P w K mg base CX0 lvl a fd ps (spOf K f) ∧ mg f.name = some (.ref a) ∧ PySem.W.keepIn K (.ref a) = true ∧ Binds K fd ps []
  nd : (f.name == ("__debug__" : Str)) = false
theorem KnownF.at {X : Cx} {lvl : Nat} {f : FSpec} (h : KnownF X.prog X.w X.K X.mg X.base lvl f) : Known X lvl f := ⟨h.ok, h.nd⟩
/-! ### loops, in plain terms -/
theorem for_inv {tg : Tg} {gs : List (Nat × List D)} {body : VS} {Qn : R → Prop} {Qr : D → R → Prop} (I : Nat → R → Prop) : ∀ {its : List (List D)} {k : Nat} {ρ : R}, I k ρ → (∀ j ρ, k ≤ j → j ≤ k + its.length → I j ρ → guardR gs ρ) →
    (∀ j x ρ, its[j]? = some x → I (k + j) ρ → ∃ ρ1, putT ρ tg x = some ρ1 ∧ body ρ1 (I (k + j + 1)) Qr) → (∀ ρ, I (k + its.length) ρ → Qn ρ) → (∀ ρ1 (A B : R → Prop), (∀ r, A r → B r) → body ρ1 A Qr → body ρ1 B Qr) → forLoop tg gs body its ρ Qn Qr
  | [], k, ρ, h0, hg, _, hq, _ => ⟨hg k ρ (Nat.le_refl _) (by simp) h0, hq ρ (by simpa using h0)⟩
  | x :: xs, k, ρ, h0, hg, hs, hq, hm => by
    refine ⟨hg k ρ (Nat.le_refl _) (by simp) h0, ?_⟩
    obtain ⟨ρ1, e, hb⟩ := hs 0 x ρ rfl (by simpa using h0)
    rw [e]
    refine hm ρ1 _ _ (fun r hr => ?_) hb
    refine for_inv I (its := xs) (k := k + 1) (by simpa using hr) (fun j r h1 h2 => hg j r (by omega) (by simp only [List.length_cons]; omega)) (fun j y r hj hi => ?_) (fun r hr => hq r (by simp only [List.length_cons]; rw [show k + (xs.length + 1) = k + 1 + xs.length by omega]; exact hr)) hm
    have := hs (j + 1) y r (by simpa using hj) (by rw [show k + (j + 1) = k + 1 + j by omega]; exact hi)
    rw [show k + (j + 1) + 1 = k + 1 + j + 1 by omega] at this
    exact this
end WA

/-! WA13: plain lemmas: loops, comprehensions; the law's own promise. -/
namespace WA
open PySem PySem.Spec PyProof.Rows L2
/-! ### for -/
theorem for_pre {α : Type} {tg : Tg} {gs : List (Nat × List D)} {body : VS} {Qn : R → Prop} {Qr : D → R → Prop} (item : α → List D) (I : List α → R → Prop) :
    ∀ {post pre : List α} {its : List (List D)} {ρ : R}, its = post.map item → I pre ρ → (∀ p ρ, I p ρ → guardR gs ρ) →
    (∀ p a q ρ (K : R → Prop), pre ++ post = p ++ a :: q → I p ρ → (∀ ρ', I (p ++ [a]) ρ' → K ρ') → ∃ ρ1, putT ρ tg (item a) = some ρ1 ∧ body ρ1 K Qr) → (∀ ρ, I (pre ++ post) ρ → Qn ρ) → forLoop tg gs body its ρ Qn Qr
  | [], pre, its, ρ, e, h0, hg, _, hq => by
    subst e
    exact ⟨hg _ ρ h0, hq ρ (by simpa using h0)⟩
  | x :: xs, pre, its, ρ, e, h0, hg, hs, hq => by
    subst e
    refine ⟨hg _ ρ h0, ?_⟩
    obtain ⟨ρ1, e, hb⟩ := hs pre x xs ρ (fun ρ2 => forLoop tg gs body (xs.map item) ρ2 Qn Qr) rfl h0 fun ρ' h' =>
      for_pre item I (post := xs) (pre := pre ++ [x]) rfl h' hg (fun p a q ρ K hp => hs p a q ρ K (by simpa using hp)) (by simpa using hq)
    show (match putT ρ tg (item x) with
      | some ρ1 => body ρ1 (fun ρ2 => forLoop tg gs body (xs.map item) ρ2 Qn Qr) Qr
      | none => False)
    rw [e]
    exact hb
/-- from the start -/
theorem for_all {α : Type} {tg : Tg} {gs : List (Nat × List D)} {body : VS} {Qn : R → Prop} {Qr : D → R → Prop} (item : α → List D) (as : List α) (I : List α → R → Prop) {its : List (List D)} {ρ : R} (e : its = as.map item) (h0 : I [] ρ) (hg : ∀ p ρ, I p ρ → guardR gs ρ)
    (hs : ∀ p a q ρ (K : R → Prop), as = p ++ a :: q → I p ρ → (∀ ρ', I (p ++ [a]) ρ' → K ρ') → ∃ ρ1, putT ρ tg (item a) = some ρ1 ∧ body ρ1 K Qr) (hq : ∀ ρ, I as ρ → Qn ρ) : forLoop tg gs body its ρ Qn Qr :=
  for_pre item I (post := as) (pre := []) e h0 hg hs hq
/-- by turns of a range -/
theorem for_rng {tg : Tg} {gs : List (Nat × List D)} {body : VS} {Qn : R → Prop} {Qr : D → R → Prop} {lo : Int} {n : Nat} (I : Nat → R → Prop) {ρ : R} (h0 : I 0 ρ) (hg : ∀ p ρ, I p ρ → guardR gs ρ)
    (hs : ∀ k ρ (K : R → Prop), k < n → I k ρ → (∀ ρ', I (k + 1) ρ' → K ρ') → ∃ ρ1, putT ρ tg [.int (lo + (k : Nat))] = some ρ1 ∧ body ρ1 K Qr) (hq : ∀ ρ, I n ρ → Qn ρ) : forLoop tg gs body (rangeD lo n) ρ Qn Qr := by
  refine for_all (fun i : Nat => [PyData.int (lo + (i : Nat))]) (List.range n) (fun p ρ => I p.length ρ) rfl h0 (fun p ρ h => hg _ ρ h) (fun p a q ρ K e h hk => ?_) (fun ρ h => hq ρ (by simpa using h))
  have hl := congrArg List.length e
  simp only [List.length_range, List.length_append, List.length_cons] at hl
  have ha : a = p.length := by
    have e2 : (List.range n)[p.length]? = some a := by rw [e]; simp
    rw [List.getElem?_range (by omega)] at e2
    exact (Option.some.inj e2).symm
  subst ha
  exact hs _ ρ K (by omega) h fun ρ' h' => hk ρ' (by simpa using h')
theorem rng0 (n : Nat) : rangeD 0 ((n : Int)).toNat = (List.range n).map fun i : Nat => [PyData.int (i : Nat)] := by
  rw [Int.toNat_natCast]
  unfold rangeD
  simp only [Int.zero_add]
theorem rng_at (lo : Int) (n : Nat) : rangeD lo n = (List.range n).map fun i : Nat => [PyData.int (lo + (i : Nat))] := rfl
theorem for_rng0 {tg : Tg} {gs : List (Nat × List D)} {body : VS} {Qn : R → Prop} {Qr : D → R → Prop} {n : Nat} (I : Nat → R → Prop) {ρ : R} (h0 : I 0 ρ) (hg : ∀ p ρ, I p ρ → guardR gs ρ)
    (hs : ∀ k ρ (K : R → Prop), k < n → I k ρ → (∀ ρ', I (k + 1) ρ' → K ρ') → ∃ ρ1, putT ρ tg [.int (k : Nat)] = some ρ1 ∧ body ρ1 K Qr) (hq : ∀ ρ, I n ρ → Qn ρ) : forLoop tg gs body (rangeD 0 ((n : Int)).toNat) ρ Qn Qr := by
  rw [Int.toNat_natCast]
  refine for_rng I h0 hg (fun k ρ K hk h h' => ?_) hq
  rw [Int.zero_add]
  exact hs k ρ K hk h h'
theorem guard_nil {ρ : R} : guardR [] ρ := fun _ h => absurd h (by simp)
theorem guard_one {i : Nat} {xs : List D} {ρ : R} (h : deref ρ (.slot i) = some (.list xs)) : guardR [(i, xs)] ρ := fun p hp => by
  have e : p = (i, xs) := by simpa using hp
  rw [e]
  exact h
/-! ### comprehensions -/
theorem lc_go {α : Type} {tg : Tg} {gs : List (Nat × List D)} {c : VC} {e : VT} {Q : List D → R → Prop} {ρ : R} (item : α → List D) (p : α → Bool) (f : α → D) (hg : guardR gs ρ) : ∀ (as : List α) {its : List (List D)} {acc : List D}, its = as.map item →
    (∀ a ∈ as, ∃ ρ1, putT ρ tg (item a) = some ρ1 ∧ wipeR ρ1 tg.ix = ρ ∧ (∀ K : Bool → R → Prop, K (p a) ρ1 → c ρ1 K) ∧ (p a = true → ∀ K : AV → R → Prop, K (.val (f a)) ρ1 → e ρ1 K)) →
    acc.length + as.length ≤ sizeLine → Q (acc ++ (as.filter p).map f) ρ → lcLoop tg gs c e its acc ρ Q
  | [], its, acc, e1, _, _, hq => by
    subst e1
    exact ⟨hg, by simpa using hq⟩
  | a :: as, its, acc, e1, h, hz, hq => by
    subst e1
    refine ⟨hg, ?_⟩
    obtain ⟨ρ1, e2, hw, hc, he⟩ := h a List.mem_cons_self
    show (match putT ρ tg (item a) with
      | some ρ1 => c ρ1 fun b ρ2 => if b = true then e ρ2 fun y ρ3 => (match y with
          | .val d => acc.length < sizeLine ∧ lcLoop tg gs c e (as.map item) (acc ++ [d]) (wipeR ρ3 tg.ix) Q
          | _ => False) else lcLoop tg gs c e (as.map item) acc (wipeR ρ2 tg.ix) Q
      | none => False)
    rw [e2]
    have hl : (a :: as).length = as.length + 1 := rfl
    refine hc _ ?_
    cases hp : p a with
    | true =>
      rw [if_pos rfl]
      refine he hp _ ⟨by omega, ?_⟩
      rw [hw]
      refine lc_go item p f hg as rfl (fun b hb => h b (List.mem_cons_of_mem _ hb)) (by simp only [List.length_append, List.length_singleton]; omega) ?_
      rw [List.filter_cons_of_pos hp, List.map_cons] at hq
      simpa using hq
    | false =>
      rw [if_neg (by decide)]
      rw [hw]
      refine lc_go item p f hg as rfl (fun b hb => h b (List.mem_cons_of_mem _ hb)) (by omega) ?_
      rw [List.filter_cons_of_neg (by simp [hp])] at hq
      exact hq
/-- without a test -/
theorem lc_map {α : Type} {tg : Tg} {gs : List (Nat × List D)} {e : VT} {Q : List D → R → Prop} {ρ : R} (item : α → List D) (f : α → D) (as : List α) {its : List (List D)} (e1 : its = as.map item) (hg : guardR gs ρ)
    (h : ∀ a ∈ as, ∃ ρ1, putT ρ tg (item a) = some ρ1 ∧ wipeR ρ1 tg.ix = ρ ∧ ∀ K : AV → R → Prop, K (.val (f a)) ρ1 → e ρ1 K) (hz : as.length ≤ sizeLine) (hq : Q (as.map f) ρ) : lcLoop tg gs tYesV e its [] ρ Q := by
  refine lc_go item (fun _ => true) f hg as e1 (fun a ha => ?_) (by simpa using hz) (by rw [List.filter_eq_self.mpr (fun _ _ => rfl)]; simpa using hq)
  obtain ⟨ρ1, h1, h2, h3⟩ := h a ha
  exact ⟨ρ1, h1, h2, fun K k => k, fun _ => h3⟩
/-! ### the law's own promise -/
def lawSpec : FSpec := ⟨"law", [.ro], false, fun xs => ∃ ns : List Int, ns.length ≤ 63 ∧ xs = [.list (ns.map PyData.int)], fun _ r yss => r = .bool true ∧ yss = []⟩
theorem law_sp {K : PySem.W.Frag} {H : Hp} {a : Addr} {ns : List Int} (hl : ns.length ≤ 63) (hS : SqL K H a (ns.map V.int)) : spOf K lawSpec [.ref a] H (fun v _ => v = .bl true) (fun _ _ _ => False) := by
  have hg : RpAll (fun _ => none) (ns.map V.int) (ns.map PyData.int) := rps_of_ints _
  have fin : ∀ (r : D) (yss : List (List D)), (r = .bool true ∧ yss = []) → ∀ (v : V) (S' H' : Hp), CExt (fun _ => none) H [] S' H' → OwnsR S' H' [] yss → ResR false H S' H' v r → v = .bl true := fun r yss hp v S' H' _ _ r' => by
    have r : Rp S' v r := r'.rp
    rw [hp.1] at r
    cases r
    rfl
  rcases hS with (h | ⟨o, h⟩) | h
  · exact ⟨fun _ => none, [.list (ns.map .int)], [], [a], fun _ _ z => by (cases z), .ro (.inl rfl) h hg .nil, by simp, by simp, ⟨ns, hl, rfl⟩, fin⟩
  · exact ⟨fun _ => none, [.list (ns.map .int)], [], [a], fun _ _ z => by (cases z), .ro (.inr ⟨o, rfl⟩) h hg .nil, by simp, by simp, ⟨ns, hl, rfl⟩, fin⟩
  · exact ⟨fun _ => none, [.list (ns.map .int)], [], [], fun _ _ z => by (cases z), .kl h hg .nil, by simp, by simp, ⟨ns, hl, rfl⟩, fin⟩
/-- a law's plain part, its ends kept as letters -/
theorem plain_of_law {n : Nat} {t : VS} (h : ∀ (ns : List Int) (Qn : R → Prop) (Qr : D → R → Prop), ns.length ≤ 63 → (∀ ρ, Qr (.bool true) ρ) → t (.ro false (ns.map PyData.int) :: List.replicate (n - 1) .no) Qn Qr) : Plain lawSpec n t := by
  rintro xs ρ ⟨ns, hl, rfl⟩ hi
  cases hi
  exact h ns _ _ hl fun ρ => ⟨[], ⟨rfl, rfl⟩, .nil⟩
end WA

/-! WA14: texts taken so many times, lists from behind, two names at once. -/
namespace WA
open PySem PySem.Spec PyProof.Rows L2
section
variable {X : Cx} {pos : Pos} {a b : Expr} {ta tb : VT}
theorem op_repS : OpR X (binaryOp .Mult) (fun x y H Q => ∃ z n, x = .str z ∧ y = .int n ∧ PySem.MulOk z n ∧ Q (.str (Txt.mul z n)) H) := by
  intro pins s σ H x y v u Q I rx ry h
  obtain ⟨z, n, rfl, rfl, hm, q⟩ := h
  obtain ⟨t, rfl⟩ := rx
  obtain ⟨t', rfl⟩ := ry
  exact PySem.SB.mul hm fun t'' k => ⟨.str _, H, I.tok _, ⟨_, rfl⟩, q⟩
def tRepS (ta tb : VT) : VE := fun ρ Q => ta ρ fun u ρ1 => tb ρ1 fun w ρ2 => match deref ρ2 u, deref ρ2 w with
  | some (.str z), some (.int n) => PySem.MulOk z n ∧ Q (.str (Txt.mul z n)) ρ2
  | _, _ => False
theorem je_repS (ha : JT X a ta) (hb : JT X b tb) : JE X (.BinOp a .Mult b pos) (tRepS ta tb) := by
  intro σ S H ρ Q hR ht
  refine W.of (pe_op opW peW peW) (two hR ha hb ht fun v w H2 S2 ρ2 u z R2 E d1 d2 q => ?_)
  split at q
  · rename_i z n e1 e2
    rw [d1.str e1, d2.int e2]
    exact WO.of op_repS ⟨z, n, rfl, rfl, q.1, S2, ρ2, _, R2, E, .str _, q.2⟩
  · exact q.elim
/-! xs[::-1] -/
theorem pe_rev {e : Expr} {te : TE} {j : Nat} {p1 p2 p3 : Pos} (he : PE X e te) : PE X (.Subscript e (.Slice none none (some (.UnaryOp .USub (.Constant (.int 1) j p1) p2)) p3) pos) (fun σ H Q => te σ H fun x H1 => ∃ a xs, x = .ref a ∧ SqL X.K H1 a xs ∧ ∀ p, H1 p = none → Q (.ref p) (upd H1 p (.lst xs.reverse))) := by
  refine ⟨fun pins s σ H Q I h => ?_⟩
  refine Subscript_ (thn (he.run pins s σ H _ I h) fun v s1 ⟨x, H1, I1, r1, q1⟩ => ?_)
  obtain ⟨a, xs, rfl, hx, q⟩ := q1
  cases r1
  refine wpAny_Slice ?_
  rw [evalPart_none]
  refine wpAny_pure ?_
  refine wpAny_pure ?_
  refine thn ((po_some (pe_un un_neg pe_int)).run pins s1 σ H1 (fun o H' => o = some (-1) ∧ H' = H1) I1 ⟨1, rfl, _, rfl, rfl, rfl⟩) fun vk s2 ⟨o, H2, I2, pk, e1, e2⟩ => ?_
  subst e1 e2
  obtain ⟨its, r, ht, hz⟩ := I2.list hx
  have hlen := r.length
  have I4 : Inv X pins σ H2 { s2 with heap := s2.heap.push { cls := .type "slice", data := .fields #[.none, .none, vk] } } := I2.kept (t' := s2.toks) fun b ob q => Heap.get?_push_of_some _ q
  obtain ⟨its', r', ht', hz'⟩ := I4.list hx
  refine tail_any (ops := [.ref a, .ref s2.heap.objs.size]) ht'.isList.typeIs slot_list_getitem.lookup ?_ (by with_unfolding_all rfl)
  refine wpAny_getItem_list_slice ht'.isList (Heap.IsSliceOf.new ..) .none .none pk (by decide) ?_ (by rw [List.size_toArray, ← r'.length]; exact hz')
  rw [PySem.W.krv_pick]
  refine ⟨.ref _, _, I4.laid (t' := s2.toks) (o := .lst xs.reverse) (fun b ob q => Heap.get?_push_of_some _ q) (Nat.le_refl _) ?_, rfl, q _ (I4.hok.fresh (Nat.le_refl _))⟩
  refine ⟨by rw [List.length_reverse]; exact hz', its'.reverse, 0, r'.reverse, ?_⟩
  exact Heap.get?_push_size _ rfl
def tRevL (ta : VT) : VE := fun ρ Q => ta ρ fun u ρ1 => match deref ρ1 u with
  | some (.list xs) => Q (.list xs.reverse) ρ1
  | _ => False
theorem jn_rev {j : Nat} {p1 p2 p3 : Pos} (ha : JT X a ta) : JN X (.Subscript a (.Slice none none (some (.UnaryOp .USub (.Constant (.int 1) j p1) p2)) p3) pos) (tRevL ta) := by
  intro σ S H ρ Q hR ht
  refine W.of (pe_rev peW) ((ha σ S H ρ _ hR ht).mono fun v H1 q => ?_)
  obtain ⟨S1, ρ1, u, R1, E1, d1, q1⟩ := q
  split at q1
  · rename_i xs e1
    obtain ⟨p, ws, rfl, g1, g2⟩ := d1.list R1 e1
    exact ⟨p, ws, rfl, g1, fun n hn => ⟨S1, ρ1, n, _, _, R1.new0 hn, E1.trans (.new0 R1 hn), rfl, E_none E1 hn, R1.sub.free hn, upd_same, rps_rev g2, q1⟩⟩
  · exact q1.elim
/-! a, b = x, y, plain names -/
def tPar (i j : Nat) (ta : VA) : VS := fun ρ Qn _ => ta ρ fun as ρ1 => match vals? as with
  | some [x, y] => Qn ((ρ1.set i (.v x)).set j (.v y))
  | _ => False
theorem js_par {new : Fs} {F : List Nat} {i j : Nat} {x y : Str} {t : VA} {px py pt : Pos} {kt : Nat} {k2 : Nat} {pt2 : Pos} (hc : X.calm = true) (hN : X.N.Nodup) (hi : X.N[i]? = some x) (hj : X.N[j]? = some y) (hij : i ≠ j) (hF : i ∉ F) (hF2 : j ∉ F) (hB : i < bd X) (hB2 : j < bd X)
    (hx : X.env.scope.names.lookup x = some .local) (hy : X.env.scope.names.lookup y = some .local) (h : JA X [a, b] t)
    (hw : swappedStores [.Tuple [.Name x px, .Name y py] kt pt] (.Tuple [a, b] k2 pt2) X.env = pure (some [x, y]))
    (hs : swapsWithSole [.Tuple [.Name x px, .Name y py] kt pt] (.Tuple [a, b] k2 pt2) pos.line X.env = pure false) :
    JS X new F (.Assign [.Tuple [.Name x px, .Name y py] kt pt] (.Tuple [a, b] k2 pt2) pos) (tPar i j t) := by
  intro σ S H ρ Qn Qr hR ht
  refine WS.of (ps_par hc hN hi hj hij hx hy paW hw hs) ((h σ S H ρ _ hR ht).mono fun vs H1 q => ?_)
  obtain ⟨S1, ρ1, as, R1, E1, d1, q1⟩ := q
  split at q1
  · rename_i u w e
    have g := vals_rps d1 e
    cases g with
    | cons g1 g =>
      cases g with
      | cons g2 g =>
        cases g
        exact ⟨_, _, rfl, S1, _, (R1.setv hB g1).setv hB2 g2, (E1.xs.trans (xs_set hF rfl)).trans (xs_set hF2 rfl), q1⟩
  · exact q1.elim
end
end WA

/-! WA15: zip of two texts; list(range(n)). -/
namespace WA
open PySem PySem.Spec PyProof.Rows L2
def asc (x : Str) : Bool := x.cps.all (· < 128)
abbrev zs1 (h : Heap) (x : Str) (t : Tok) : Heap := h.push { cls := .type "str_ascii_iterator", data := .fields #[.str x t, .int 0 0] }
abbrev zs2 (h : Heap) (x y : Str) (t u : Tok) : Heap := zs1 (zs1 h x t) y u
abbrev zs3 (h : Heap) (x y : Str) (t u : Tok) : Heap := (zs2 h x y t u).push { cls := .type "tuple", data := .seq #[.ref h.objs.size, .ref (zs1 h x t).objs.size] }
abbrev zs4 (h : Heap) (x y : Str) (t u : Tok) : Heap := (zs3 h x y t u).push { cls := .type "tuple", data := .seq #[.none, .none] }
abbrev zs5 (h : Heap) (x y : Str) (t u : Tok) : Heap := (zs4 h x y t u).push { cls := .type "zip", data := .fields #[.none, .bool false, .bool false, .ref (zs2 h x y t u).objs.size, .ref (zs3 h x y t u).objs.size] }
theorem zs_meets (x y : Str) (t u : Tok) (hx : asc x = true) (hy : asc y = true) :
    Meets (Builtin.«zip.__new__» ⟨[.type "zip", .str x t, .str y u], []⟩) (fun _ R s => R (.ok (.ret (.ref (zs4 s.heap x y t u).objs.size))) { s with heap := zs5 s.heap x y t u }) :=
  .of_wp fun prog w A R s h => by
    obtain ⟨hp, g, d, tk, os⟩ := s
    have hsub := sub_zip
    have hX : x.cps.all (· < 128) = true := hx
    have hY : y.cps.all (· < 128) = true := hy
    wp_walk using wpAny_pyIter_ascii hX, wpAny_pyIter_ascii hY
    exact ⟨_, rfl, h⟩
section
variable {prog : Program} {w : World} {A : Around} {E : Value → Shared → Prop} {s : Shared}
theorem call_zs {x y : Str} {t u : Tok} {Q : Value → Shared → Prop} (hx : asc x = true) (hy : asc y = true)
    (h : ∀ h', IsZip h' (s.heap.objs.size + 4) (s.heap.objs.size + 2) (s.heap.objs.size + 3) .none → IsTupOf2 h' (s.heap.objs.size + 2) (.ref s.heap.objs.size) (.ref (s.heap.objs.size + 1)) → IsTupOf2 h' (s.heap.objs.size + 3) .none .none →
      h'.IsStrIter s.heap.objs.size "str_ascii_iterator" x t 0 → h'.IsStrIter (s.heap.objs.size + 1) "str_ascii_iterator" y u 0 → h'.objs.size = s.heap.objs.size + 5 →
      (∀ c o, s.heap.get? c = some o → h'.get? c = some o) → Q (.ref (s.heap.objs.size + 4)) { s with heap := h' }) :
    wpAny (model prog w) A (call (.type "zip") [.str x t, .str y u]) Q E s := by
  refine callType_new F.called_zip (by decide) (F.typeCall_zip_2 _ _) (F.newCall_zip_2 _ _) (fun obj => F.args_object_init_3 obj _ _) F.entry_zip_new (zs_meets x y t u hx hy) ?_
  have n1 : (zs1 s.heap x t).objs.size = s.heap.objs.size + 1 := Heap.size_push ..
  have n2 : (zs2 s.heap x y t u).objs.size = s.heap.objs.size + 2 := by rw [Heap.size_push, n1]
  have n3 : (zs3 s.heap x y t u).objs.size = s.heap.objs.size + 3 := by rw [Heap.size_push, n2]
  have n4 : (zs4 s.heap x y t u).objs.size = s.heap.objs.size + 4 := by rw [Heap.size_push, n3]
  have n5 : (zs5 s.heap x y t u).objs.size = s.heap.objs.size + 5 := by rw [Heap.size_push, n4]
  have up1 : ∀ {c : Addr} {o : Obj}, (zs1 s.heap x t).get? c = some o → (zs5 s.heap x y t u).get? c = some o := fun e => Heap.get?_push_of_some _ (Heap.get?_push_of_some _ (Heap.get?_push_of_some _ (Heap.get?_push_of_some _ e)))
  have up2 : ∀ {c : Addr} {o : Obj}, (zs2 s.heap x y t u).get? c = some o → (zs5 s.heap x y t u).get? c = some o := fun e => Heap.get?_push_of_some _ (Heap.get?_push_of_some _ (Heap.get?_push_of_some _ e))
  have k5 : (zs5 s.heap x y t u).get? (zs4 s.heap x y t u).objs.size = some _ := Heap.get?_push_size _ rfl
  have k4 : (zs5 s.heap x y t u).get? (zs3 s.heap x y t u).objs.size = some _ := Heap.get?_push_of_some _ (Heap.get?_push_size _ rfl)
  have k3 : (zs5 s.heap x y t u).get? (zs2 s.heap x y t u).objs.size = some _ := Heap.get?_push_of_some _ (Heap.get?_push_of_some _ (Heap.get?_push_size _ rfl))
  have k2 : (zs5 s.heap x y t u).get? (zs1 s.heap x t).objs.size = some _ := up2 (Heap.get?_push_size _ rfl)
  have k1 : (zs5 s.heap x y t u).get? s.heap.objs.size = some _ := up1 (Heap.get?_push_size _ rfl)
  show _ ∧ _
  rw [n2, n3, n4] at k5
  rw [n1, n2] at k3
  rw [n3] at k4
  rw [n1] at k2
  rw [n4]
  exact ⟨⟨_, k5, rfl⟩, h _ k5 k3 k4 ⟨_, k1, rfl, rfl⟩ ⟨_, k2, rfl, rfl⟩ n5 fun c o e => up1 (Heap.get?_push_of_some _ e)⟩
end
/-- the signs of both, in new pairs -/
def Itzs (x y : Str) : It :=
  ⟨fun i _ => i < x.cps.size ∧ i < y.cps.size,
    fun i H v H' => ∃ T c d, v = .ref T ∧ H T = none ∧ H' = upd H T (.tup [.str ⟨#[c]⟩, .str ⟨#[d]⟩]) ∧ x.cps[i]? = some c ∧ y.cps[i]? = some d,
    fun i _ => i = min x.cps.size y.cps.size⟩
theorem turn_zs {P : Program} {w : World} {K : PySem.W.Frag} {elts : List Expr} {kk : Nat} {tpos : Pos} {z TI TO i1 i2 : Addr} {x y : Str} {t u : Tok} (D : ZipSep2 z TI TO i1 i2 [i1] [i2]) :
    Turn P w K (.Tuple elts kk tpos) (Itzs x y) [z, TI, TO, i1, i2] z (fun i h => i ≤ min x.cps.size y.cps.size ∧ IsZip h z TI TO .none ∧ IsTupOf2 h TI (.ref i1) (.ref i2) ∧ (∃ a b, IsTupOf2 h TO a b) ∧ h.IsStrIter i1 "str_ascii_iterator" x t i ∧ h.IsStrIter i2 "str_ascii_iterator" y u i) where
  mem := List.mem_cons_self
  obj := fun i h st c hc => by
    obtain ⟨_, hz, hTI, ⟨a, b, hTO⟩, ⟨o1, e1, _, d1⟩, ⟨o2, e2, _, d2⟩⟩ := st
    have cs : c = z ∨ c = TI ∨ c = TO ∨ c = i1 ∨ c = i2 := by simpa using hc
    rcases cs with rfl | rfl | rfl | rfl | rfl
    · exact ⟨_, hz, fun v q => nomatch q⟩
    · exact ⟨_, hTI, fun v q => nomatch q⟩
    · exact ⟨_, hTO, fun v q => nomatch q⟩
    · exact ⟨o1, e1, fun v q => by rw [d1] at q; cases q⟩
    · exact ⟨o2, e2, fun v q => by rw [d2] at q; cases q⟩
  keep := fun i h h' st k => by
    obtain ⟨le, hz, hTI, ⟨a, b, hTO⟩, ⟨o1, e1, r1⟩, ⟨o2, e2, r2⟩⟩ := st
    exact ⟨le, k z (by simp) _ hz, k TI (by simp) _ hTI, ⟨a, b, k TO (by simp) _ hTO⟩, ⟨o1, k i1 (by simp) _ e1, r1⟩, ⟨o2, k i2 (by simp) _ e2, r2⟩⟩
  item := by
    intro X hP hw hK hc i pins s σ H E I hf st hg
    subst hP hw hK
    obtain ⟨le, hz, hTI, ⟨a, b, hTO⟩, h1, h2⟩ := st
    have hd : X.A.in1.handled = none := I.ok.hd hc
    have hzl : z < s.heap.objs.size := Heap.lt_size hz
    refine wpAny_pyNext_zipD2_item D (Draws.strAscii hd i1 x t) (Draws.strAscii hd i2 y u) hz hTI hTO h1 h2 hg.1 hg.2 fun x1 x2 h' tk y1 y2 z' TO' h1' h2' hT hsz hk => ?_
    obtain ⟨c, tc, ec, rfl⟩ := y1
    obtain ⟨d, td, ed, rfl⟩ := y2
    refine ⟨_, rfl, wpAny_letOwnedTupleGo_zip (s := { s with heap := h', toks := tk }) z' fun h'' z'' sb => ?_⟩
    have hT2 : h''.get? s.heap.objs.size = some { cls := .type "tuple", data := .seq #[.str ⟨#[c]⟩ tc, .str ⟨#[d]⟩ td] } := (sb.2 _ (Nat.ne_of_gt hzl)).trans hT
    have new : ObjOk X.prog X.w (upd H s.heap.objs.size (.tup [.str ⟨#[c]⟩, .str ⟨#[d]⟩])) h'' s.heap.objs.size (.tup [.str ⟨#[c]⟩, .str ⟨#[d]⟩]) :=
      ⟨by show 2 ≤ sizeLine; decide, [_, _], .cons ⟨_, rfl⟩ (.cons ⟨_, rfl⟩ .nil), ⟨_, hT2, rfl, _, rfl⟩⟩
    have stay : ∀ b o, b ∉ [z, TI, TO, i1, i2] → s.heap.get? b = some o → h''.get? b = some o := fun b o hb q => by
      have ne : b ≠ z ∧ b ≠ TI ∧ b ≠ TO ∧ b ≠ i1 ∧ b ≠ i2 := by simpa using hb
      exact (sb.2 b ne.1).trans (hk b o ne.1 ne.2.2.1 ne.2.2.2.1 ne.2.2.2.2 q)
    have I1 := I.turnedNew (t' := tk) (ch := [z, TI, TO, i1, i2]) stay hf (Nat.le_refl _) new
    have lts : ∀ b ∈ [z, TI, TO, i1, i2], b < s.heap.objs.size := fun b hb => by
      have cs : b = z ∨ b = TI ∨ b = TO ∨ b = i1 ∨ b = i2 := by simpa using hb
      obtain ⟨_, e1, _⟩ := h1
      obtain ⟨_, e2, _⟩ := h2
      rcases cs with rfl | rfl | rfl | rfl | rfl
      · exact hzl
      · exact Heap.lt_size hTI
      · exact Heap.lt_size hTO
      · exact Heap.lt_size e1
      · exact Heap.lt_size e2
    refine ⟨.ref s.heap.objs.size, _, I1, rfl, ⟨_, c, d, rfl, I.hok.fresh (Nat.le_refl _), rfl, ec, ed⟩, ⟨by have := hg.1; have := hg.2; omega, z'', (sb.2 _ D.TIz).trans (hk _ _ D.TIz D.TITO D.TIi1 D.TIi2 hTI), ⟨_, _, (sb.2 _ D.TOz).trans TO'⟩, ?_, ?_⟩, fun b hb => ?_⟩
    · obtain ⟨o, e, r⟩ := h1'
      exact ⟨o, (sb.2 _ D.zi1.symm).trans e, r⟩
    · obtain ⟨o, e, r⟩ := h2'
      exact ⟨o, (sb.2 _ D.zi2.symm).trans e, r⟩
    · rw [upd_ne (Nat.ne_of_lt (lts b hb))]
      exact (hf b hb).1
  done := by
    intro X hP hw hK hc i pins s σ H E I hf st hg
    subst hP hw hK
    obtain ⟨le, hz, hTI, ⟨a, b, hTO⟩, h1, h2⟩ := st
    have hd : X.A.in1.handled = none := I.ok.hd hc
    have hg : i = min x.cps.size y.cps.size := hg
    refine wpAny_pyNext_zipD2_end D (Draws.strAscii hd i1 x t) (Draws.strAscii hd i2 y u) hz hTI hTO h1 h2 (by omega) (by omega) (by omega) fun h' tk hk => ⟨rfl, I.turnedL (t' := tk) (ch := [z, TI, TO, i1, i2]) (fun b o hb q => ?_) hf⟩
    have ne : b ≠ z ∧ b ≠ TI ∧ b ≠ TO ∧ b ≠ i1 ∧ b ≠ i2 := by simpa using hb
    exact hk b o ne.1 ne.2.2.1 ne.2.2.2.1 ne.2.2.2.2 q
  self := fun A i s Q E st h => wpAny_pyIter_zip st.2.1 h
def iZs (ta : TA) : TI := fun σ H R => ta σ H fun vs H1 => ∃ x y, vs = [.str x, .str y] ∧ asc x = true ∧ asc y = true ∧ R (Itzs x y) H1
theorem zs_sep (n : Nat) : ZipSep2 (n + 4) (n + 2) (n + 3) n (n + 1) [n] [n + 1] := by
  refine ⟨?_, ?_, ?_, ?_, ?_, ?_, ?_, ?_, ?_, ?_, ?_, ?_, ?_⟩ <;> first | (show (_ : Nat) ≠ _; omega) | simp | (simp; omega)
theorem pi_zs {X : Cx} {e e2 : Expr} {ta : TA} {p pos tpos : Pos} {elts : List Expr} {kk : Nat} (hg : Gl X "zip") (hm : X.mg "zip" = none) (ha : PA X [e, e2] ta)
    (hs : starEach [e, e2] X.env = (false, eval e X.env) :: starEach [e2] X.env) (hpl : (backTo pos (starEach [e2] X.env)).any (·.1) = false) :
    PI X (.Tuple elts kk tpos) (.Call (.Name "zip" p) [e, e2] [] pos) (iZs ta) := by
  refine ⟨fun pins s σ H R I h => ?_⟩
  refine Call_ (ld_blt I hg hm PyProof.Rows.boot_zip (PyProof.Rows.callWith_type1 (thn (ha.run pos pins s σ H _ I h) fun us s1 ⟨vs, H1, I1, r1, q1⟩ => ?_) hs hpl))
  obtain ⟨x, y, rfl, ax, ay, q⟩ := q1
  cases r1 with
  | cons r rr =>
    cases rr with
    | cons r' rr =>
      cases rr
      obtain ⟨t, rfl⟩ := r
      obtain ⟨u, rfl⟩ := r'
      refine call_zs ax ay fun h' hz hTI hTO h1 h2 hsz hk => wpAny_pyIter_zip hz ?_
      have I2 : Inv X pins σ H1 { s1 with heap := h' } := I1.kept (t' := s1.toks) hk
      refine ⟨s1.heap.objs.size + 4, [s1.heap.objs.size + 4, s1.heap.objs.size + 2, s1.heap.objs.size + 3, s1.heap.objs.size, s1.heap.objs.size + 1], _, _, H1, rfl, I2, turn_zs (zs_sep _), ⟨Nat.zero_le _, hz, hTI, ⟨_, _, hTO⟩, h1, h2⟩, fun c hc => ?_, q⟩
      have hle : s1.heap.objs.size ≤ c := by
        have cs : c = s1.heap.objs.size + 4 ∨ c = s1.heap.objs.size + 2 ∨ c = s1.heap.objs.size + 3 ∨ c = s1.heap.objs.size ∨ c = s1.heap.objs.size + 1 := by simpa using hc
        rcases cs with rfl | rfl | rfl | rfl | rfl <;> first | exact Nat.le_refl _ | exact Nat.le_add_right _ _
      exact I1.fpOk hle (I1.hok.fresh hle)
/-! over slots -/
section
variable {X : Cx} {pos p : Pos} {tg e a b : Expr} {ta tb : VT} {σ : L2.St} {S H : Hp} {ρ : R} {K : PySem.W.Frag}
def zipSD (x y : Str) : List (List D) := (x.cps.toList.zip y.cps.toList).map fun p => [PyData.str ⟨#[p.1]⟩, PyData.str ⟨#[p.2]⟩]
theorem serves_zs {x y : Str} : Serves K true (Itzs x y) [] (zipSD x y) := by
  intro S H _
  have hl : (zipSD x y).length = min x.cps.size y.cps.size := by simp [zipSD]
  refine ⟨hl, fun i it hx => ?_⟩
  unfold zipSD at hx
  rw [List.getElem?_map] at hx
  cases hz : (x.cps.toList.zip y.cps.toList)[i]? with
  | none => rw [hz] at hx; cases hx
  | some pr =>
    rw [hz] at hx
    cases hx
    obtain ⟨g1, g2⟩ := List.getElem?_zip_eq_some.mp hz
    have e1 : x.cps[i]? = some pr.1 := by rw [← Array.getElem?_toList]; exact g1
    have e2 : y.cps[i]? = some pr.2 := by rw [← Array.getElem?_toList]; exact g2
    refine ⟨⟨(Array.getElem?_eq_some_iff.mp e1).1, (Array.getElem?_eq_some_iff.mp e2).1⟩, fun v H' yy => ?_⟩
    obtain ⟨T, c, d, rfl, hT, rfl, f1, f2⟩ := yy
    rw [e1] at f1
    rw [e2] at f2
    cases f1
    cases f2
    exact .two hT (.cons (.str _) (.cons (.str _) .nil))
def tZipS (ta tb : VT) : VI := fun ρ Q => ta ρ fun u ρ1 => tb ρ1 fun w ρ2 => match deref ρ2 u, deref ρ2 w with
  | some (.str x), some (.str y) => asc x = true ∧ asc y = true ∧ Q (zipSD x y) [] ρ2
  | _, _ => False
theorem ji_zipS {elts : List Expr} {kk : Nat} {tpos : Pos} (hg : Gl X "zip") (hm : X.mg "zip" = none) (ha : JT X a ta) (hb : JT X b tb) (hs : notStar a = true) (hs2 : notStar b = true) : JI X true (.Tuple elts kk tpos) (.Call (.Name "zip" p) [a, b] [] pos) (tZipS ta tb) := by
  intro σ S H ρ Q hR ht
  refine WIt.of (pi_zs hg hm (pa_cons peW (pa_cons peW pa_nil (star_cons hs2)) (star_cons hs)) (star_cons hs) (star_none (by simp [hs2]))) (two hR ha hb ht fun v w H2 S2 ρ2 u z R2 E d1 d2 q => ?_)
  split at q
  · rename_i x y e1 e2
    exact ⟨x, y, by rw [d1.str e1, d2.str e2], q.1, q.2.1, S2, ρ2, _, _, [], R2, E, serves_zs, fun p hp => absurd hp (by simp), q.2.2⟩
  · exact q.elim
/-! list(range(n)) -/
def tLsR (ta : VT) : VE := fun ρ Q => ta ρ fun u ρ1 => match deref ρ1 u with
  | some (.int n) => -(2 ^ 62) ≤ n ∧ n < 2 ^ 24 ∧ Q (.list ((List.range n.toNat).map fun i : Nat => PyData.int (i : Nat))) ρ1
  | _ => False
theorem jn_lsR {p2 pos2 : Pos} (hc : X.calm = true) (hg : Gl X "list") (hm : X.mg "list" = none) (hg2 : Gl X "range") (hm2 : X.mg "range" = none) (ha : JT X a ta) (hs : notStar a = true) : JN X (.Call (.Name "list" p) [.Call (.Name "range" p2) [a] [] pos2] [] pos) (tLsR ta) := by
  intro σ S H ρ Q hR ht
  refine W.of (pe_listRg hc hg hm (prg_1 hg2 hm2 peW (star_cons hs)) (star_cons rfl)) ((ha σ S H ρ _ hR ht).mono fun v H1 q => ?_)
  obtain ⟨S1, ρ1, u, R1, E1, d1, q1⟩ := q
  split at q1
  · rename_i n e1
    obtain ⟨h1, h2, q1⟩ := q1
    refine ⟨n, d1.int e1, ⟨by decide, by decide, h1, by omega, by omega⟩, fun c hcn => ?_⟩
    have er : RpAll S1 (rgV 0 n) ((List.range n.toNat).map fun i : Nat => PyData.int (i : Nat)) := by
      have := rps_of_ints (S := S1) ((List.range n.toNat).map fun i : Nat => (i : Int))
      unfold rgV
      rw [List.map_map, List.map_map] at this
      simp only [Int.sub_zero, Int.zero_add]
      exact this
    exact ⟨S1, ρ1, c, _, _, R1.new0 hcn, E1.trans (.new0 R1 hcn), rfl, E_none E1 hcn, R1.sub.free hcn, upd_same, er, q1⟩
  · exact q1.elim
end
end WA

/-! WA16: a dict that a def fills and hands out as the list of its keys. -/
namespace WA
open PySem PySem.Spec PyProof.Rows L2
def kvT (ks : List Str) : List (Key × V) := ks.map fun k => (Sum.inr k, V.bl true)
def putS (ks : List Str) (k : Str) : List Str := if k ∈ ks then ks else ks ++ [k]
theorem putK_kvT (ks : List Str) (k : Str) : putK (kvT ks) (Sum.inr k) (V.bl true) = kvT (putS ks k) := by
  have hm : (kvT ks).any (fun kv => decide (kv.1 = Sum.inr k)) = decide (k ∈ ks) := by
    unfold kvT
    rw [List.any_map]
    induction ks with
    | nil => rfl
    | cons a ks ih =>
      rw [List.any_cons, ih]
      by_cases h : a = k
      · subst h; simp
      · have h2 : ¬ k = a := fun z => h z.symm
        simp [h, h2]
  unfold putK putS
  rw [hm]
  by_cases h : k ∈ ks
  · rw [if_pos h, decide_eq_true h, if_pos rfl]
    unfold kvT
    rw [List.map_map]
    refine List.map_congr_left fun a _ => ?_
    show (if (Sum.inr a : Key) = Sum.inr k then ((Sum.inr a : Key), V.bl true) else (Sum.inr a, V.bl true)) = _
    split <;> rfl
  · rw [if_neg h, decide_eq_false h, if_neg (by decide)]
    unfold kvT
    rw [List.map_append]
    rfl
structure Dk (D : Addr) (m : Nat) (S H : Hp) (σ : L2.St) (ρ : R) (ks : List Str) : Prop where
  no : ρ[m]? = some .no
  pt : σ[m]? = some (some (.ref D))
  s : S D = none
  h : H D = some (.dK (kvT ks))
/-- what is left of what stood, but for the dict at D -/
structure XD (D : Addr) (F : List Nat) (σ : L2.St) (S H : Hp) (ρ : R) (σ' : L2.St) (S' H' : Hp) (ρ' : R) : Prop where
  same : Same S S'
  there : ∀ b, H b ≠ none → H' b ≠ none
  stay : ∀ b, H b ≠ none → S b = none → ¬ OwnAt σ ρ b → S' b = none
  keep : ∀ b o, b ≠ D → H b = some o → S b = none → ¬ OwnAt σ ρ b → H' b = some o
  own : ∀ b, OwnAt σ' ρ' b → OwnAt σ ρ b ∨ H b = none
  fix : ∀ i ∈ F, σ'[i]? = σ[i]?
  kind : ∀ i ∈ F, (∃ xs, ρ[i]? = some (.own xs)) → ∃ xs, ρ'[i]? = some (.own xs)
section
variable {X : Cx} {D : Addr} {m : Nat} {F : List Nat} {σ σ1 σ2 : L2.St} {S H S1 H1 S2 H2 : Hp} {ρ ρ1 ρ2 : R} {K : PySem.W.Frag} {B : Nat} {ks : List Str} {pos : Pos} {e : Expr}
theorem XS.xd (E : XS F σ S H ρ σ1 S1 H1 ρ1) : XD D F σ S H ρ σ1 S1 H1 ρ1 := ⟨E.same, E.there, E.stay, fun b o _ => E.keep b o, E.own, E.fix, E.kind⟩
theorem XD.refl : XD D F σ S H ρ σ S H ρ := XS.refl.xd
theorem XD.trans (a : XD D F σ S H ρ σ1 S1 H1 ρ1) (b : XD D F σ1 S1 H1 ρ1 σ2 S2 H2 ρ2) : XD D F σ S H ρ σ2 S2 H2 ρ2 := by
  have no : ∀ {c : Addr}, H c ≠ none → ¬ OwnAt σ ρ c → ¬ OwnAt σ1 ρ1 c := fun {c} h n z => by
    rcases a.own c z with q | q
    · exact n q
    · exact h q
  refine ⟨a.same.trans b.same, fun c h => b.there c (a.there c h), fun c h h' n => b.stay c (a.there c h) (a.stay c h h' n) (no h n), fun c o hd h h' n => ?_, fun c h => ?_, fun i hi => (b.fix i hi).trans (a.fix i hi), fun i hi h => b.kind i hi (a.kind i hi h)⟩
  · have hc : H c ≠ none := by rw [h]; simp
    exact b.keep c o hd (a.keep c o hd h h' n) (a.stay c hc h' n) (no hc n)
  · rcases b.own c h with q | q
    · exact a.own c q
    · refine .inr ?_
      cases e : H c with
      | none => rfl
      | some o => exact absurd q (a.there c (by rw [e]; simp))
theorem XD.weak {F' : List Nat} (a : XD D F' σ S H ρ σ1 S1 H1 ρ1) (h : ∀ i ∈ F, i ∈ F') : XD D F σ S H ρ σ1 S1 H1 ρ1 := ⟨a.same, a.there, a.stay, a.keep, a.own, fun i hi => a.fix i (h i hi), fun i hi => a.kind i (h i hi)⟩
theorem XD.xs (a : XD D F σ S H ρ σ1 S1 H1 ρ1) (h0 : H D = none) : XS F σ S H ρ σ1 S1 H1 ρ1 := ⟨a.same, a.there, a.stay, fun b o hb => a.keep b o (fun z => by rw [z, h0] at hb; cases hb) hb, a.own, a.fix, a.kind⟩
theorem Dk.nown (R : Rel K B S H σ ρ) (d : Dk D m S H σ ρ ks) : ¬ OwnAt σ ρ D := fun z => by
  obtain ⟨_, vs, h, q⟩ := R.own_at z
  rw [d.h] at h
  cases h
  cases q
theorem Dk.ext (R : Rel K B S H σ ρ) (d : Dk D m S H σ ρ ks) (E : Ext σ S H ρ S1 H1 ρ1) : Dk D m S1 H1 σ ρ1 ks :=
  ⟨by rw [E.oth m fun xs z => by rw [d.no] at z; cases z]; exact d.no, d.pt, E.stay D (by rw [d.h]; simp) d.s, E.keep D _ d.h d.s (d.nown R)⟩
theorem Rel.updD (h : Rel K B S H σ ρ) (d : Dk D m S H σ ρ ks) (o : HO) : Rel K B S (upd H D o) σ ρ where
  len := h.len
  sub := fun b x e => by
    rw [upd_ne fun z => by rw [z, d.s] at e; cases e]
    exact h.sub b x e
  val := h.val
  own := fun i xs e => by
    obtain ⟨a, vs, h1, h2, h3, h4⟩ := h.own i xs e
    refine ⟨a, vs, h1, h2, ?_, h4⟩
    rw [upd_ne fun z => by rw [z, d.h] at h3; cases h3]
    exact h3
  ro := fun i k xs e => by
    obtain ⟨a, vs, h1, h2, h3⟩ := h.ro i k xs e
    refine ⟨a, vs, h1, ?_, h3⟩
    rcases h2 with h2 | ⟨⟨o', q, h2⟩, n⟩
    · exact .inl h2
    · refine .inr ⟨⟨o', q, ?_⟩, n⟩
      rw [upd_ne fun z => ?_]
      · exact h2
      · rw [z, d.h] at h2
        cases h2
        rcases q with q | ⟨_, ob, q⟩ <;> cases q
  sep := h.sep
  vir := h.vir.to (fun _ _ q _ => ⟨q, rfl⟩) (fun _ _ => rfl) (fun i k is a u q1 q2 q3 q4 => ⟨q3, by rw [upd_ne (fun z => d.nown h ⟨i, _, ⟨q1, rfl⟩, by rw [← z]; exact q2⟩)]; exact q4⟩) (fun e c q1 q2 n => ⟨q2, by rw [upd_ne (fun z => by rw [z, d.h] at q1; cases q1)]; exact q1, n⟩)
theorem Dk.upd (d : Dk D m S H σ ρ ks) (ks' : List Str) : Dk D m S (upd H D (.dK (kvT ks'))) σ ρ ks' := ⟨d.no, d.pt, d.s, upd_same⟩
theorem xd_upd (o : HO) : XD D F σ S H ρ σ S (upd H D o) ρ := ⟨Same.refl _, fun b hb => by
    by_cases z : b = D
    · rw [z, upd_same]; simp
    · rw [upd_ne z]; exact hb, fun _ _ h _ => h, fun b o' hb h _ _ => by rw [upd_ne hb]; exact h, fun _ h => .inl h, fun _ _ => rfl, fun _ _ h => h⟩
abbrev VD := R → List Str → (R → List Str → Prop) → Prop
def endsD (X : Cx) (D : Addr) (m : Nat) (F : List Nat) (σ : L2.St) (S H : Hp) (ρ : R) (Q : R → List Str → Prop) : Ends where
  nx := fun σ' H' => ∃ S' ρ' ks', Rel X.K (bd X) S' H' σ' ρ' ∧ XD D F σ S H ρ σ' S' H' ρ' ∧ Dk D m S' H' σ' ρ' ks' ∧ Q ρ' ks'
  rt := fun _ _ => False
def JD (X : Cx) (m : Nat) (F : List Nat) (st : Stmt) (t : VD) : Prop := ∀ D σ S H ρ ks Q, Rel X.K (bd X) S H σ ρ → Dk D m S H σ ρ ks → t ρ ks Q → WS X st (endsD X D m F σ S H ρ Q) σ H
/-- d[e] = True -/
def tDPut (te : VT) : VD := fun ρ ks Q => te ρ fun u ρ1 => match u with
  | .val (.str k) => ks.length < sizeLine ∧ Q ρ1 (putS ks k)
  | _ => False
theorem jd_put {x : Str} {px pos' pt : Pos} {jt : Nat} {te : VT} (hu : X.A.units + 64 < cLine) (hn : Nm X m x) (he : JT X e te) (hs : swapsWith (.Constant (.bool true) jt pt) (some (.Subscript (.Name x px) e pos')) pos.line X.env = pure false) :
    JD X m F (.Assign [.Subscript (.Name x px) e pos'] (.Constant (.bool true) jt pt) pos) (tDPut te) := by
  intro D σ S H ρ ks Q hR d ht
  refine WS.of (ps_dput (by omega) hn.pe peW pe_bl hs) ?_
  refine ⟨_, d.pt, (he σ S H ρ _ hR ht).mono fun y H3 q => ?_⟩
  obtain ⟨S3, ρ3, u, R3, E3, d3, q⟩ := q
  have dk := d.ext hR E3
  split at q
  · rename_i k
    have hy : y = .str k := by
      have d3 : Rp S3 y (.str k) := d3
      cases d3
      rfl
    subst hy
    refine ⟨D, _, rfl, DPut.k (k := Sum.inr k) dk.h (by unfold kvT; rw [List.length_map]; exact q.1), ?_⟩
    rw [putK_kvT]
    exact ⟨S3, ρ3, _, R3.updD dk _, E3.xs.xd.trans (xd_upd _), dk.upd _, q.2⟩
  · exact q.elim
/-- for -/
def dLoop (tg : Tg) (gs : List (Nat × List WA.D)) (body : VD) : List (List WA.D) → R → List Str → (R → List Str → Prop) → Prop
  | [], ρ, ks, Q => guardR gs ρ ∧ Q ρ ks
  | x :: xs, ρ, ks, Q => guardR gs ρ ∧ match putT ρ tg x with
    | some ρ1 => body ρ1 ks fun ρ2 ks2 => dLoop tg gs body xs ρ2 ks2 Q
    | none => False
def tDFor (m : Nat) (F' : List Nat) (tg : Tg) (ti : VI) (body : VD) : VD := fun ρ ks Q => ti ρ fun its gs ρ1 => (((gs.all fun p => F'.contains p.1) && (tg.ix.all fun i => !F'.contains i)) = true ∧ tg.ix.contains m = false) ∧ dLoop tg gs body its ρ1 ks Q
theorem jd_for {F' : List Nat} {tgE iter : Expr} {st : Stmt} {tg : Tg} {ti : VI} {tb : VD} (hB : (tg.ix.all fun i => decide (i < bd X)) = true) (hp : PassesOwn (model X.prog X.w) X.A X.env X.xe) (hc : X.calm = true) (hi : JI X tg.pair tgE iter ti) (hg : PG X tgE (gT X.K tg)) (hb : JD X m F' st tb) (hF : ∀ i ∈ F, i ∈ F')
    (hs : ∀ x, foldedSetIterable iter X.env x = pure x) : JD X m F (.For tgE iter [st] [] pos) (tDFor m F' tg ti tb) := by
  intro D σ S H ρ ks Q hR d ht
  refine WS.of (ps_for hp hc piW hg pssW hs) ((hi σ S H ρ _ hR ht).mono fun J H1 q => ?_)
  obtain ⟨S1, ρ1, its, gs, as, R1, E1, Sv, L, ⟨hgs, hm⟩, hl⟩ := q
  rw [Bool.and_eq_true] at hgs
  obtain ⟨hgs, htg⟩ := hgs
  have d1 := d.ext hR E1
  have hgs' : ∀ p ∈ gs, p.1 ∈ F' := fun p hp => List.contains_iff_mem.mp (List.all_eq_true.mp hgs p hp)
  have htg' : ∀ i ∈ tg.ix, i ∉ F' := fun i hi => by
    have z := List.all_eq_true.mp htg i hi
    intro hm
    rw [List.contains_iff_mem.mpr hm] at z
    cases z
  have hmx : m ∉ tg.ix := fun z => by
    rw [List.contains_iff_mem.mpr z] at hm
    cases hm
  refine ⟨fun i n σc Hc => n = its.length - i ∧ i ≤ its.length ∧ ∃ S' ρ' ks', Rel X.K (bd X) S' Hc σc ρ' ∧ XD D F' σ S1 H1 ρ1 σc S' Hc ρ' ∧ Dk D m S' Hc σc ρ' ks' ∧ dLoop tg gs tb (its.drop i) ρ' ks' Q,
    ⟨its.length, by simp, Nat.zero_le _, S1, ρ1, ks, R1, .refl, d1, hl⟩, ?_⟩
  rintro i n σc Hc ⟨rfl, hle, S', ρ', ks', R', E', d', hl⟩
  by_cases hlt : i < its.length
  · rw [List.drop_eq_getElem_cons hlt] at hl
    obtain ⟨hg, hl⟩ := hl
    obtain ⟨_, hsv⟩ := Sv S' Hc (linked_now L R' E'.same hg fun p hp => E'.fix _ (hgs' p hp))
    obtain ⟨hgo, hy⟩ := hsv i its[i] (List.getElem?_eq_getElem hlt)
    refine .inr ⟨hgo, fun σn Hn => ∃ S' ρ' ks', Rel X.K (bd X) S' Hn σn ρ' ∧ XD D F' σ S1 H1 ρ1 σn S' Hn ρ' ∧ Dk D m S' Hn σn ρ' ks' ∧ dLoop tg gs tb (its.drop (i + 1)) ρ' ks' Q, fun σn Hn hn => ⟨its.length - (i + 1), by omega, rfl, hlt, hn⟩, fun x H' y => ?_⟩
    split at hl
    · rename_i ρp hput
      have it := hy x H' y
      refine xs_put (F := m :: F') (fun i hi => of_decide_eq_true (List.all_eq_true.mp hB i hi)) (fun i hi hm' => ?_) R' it hput fun σ2 R2 E2 => ?_
      · rcases List.mem_cons.mp hm' with z | z
        · exact hmx (z ▸ hi)
        · exact htg' i hi z
      have E2' : XS F' σc S' Hc ρ' σ2 S' H' ρp := E2.weak fun i hi => List.mem_cons_of_mem _ hi
      have d2 : Dk D m S' H' σ2 ρp ks' := ⟨by rw [(putT_out hput).2.1 m hmx]; exact d'.no, by rw [E2.fix m List.mem_cons_self]; exact d'.pt, d'.s, E2.keep D _ d'.h d'.s (d'.nown R')⟩
      refine WSs.of (pss_cons psW pss_nil) ((hb D σ2 S' H' ρp ks' _ R2 d2 hl).mono (fun σ3 H3 q => ?_) (fun v H3 q => q.elim) (fun _ _ q => q.elim) (fun _ _ q => q.elim))
      obtain ⟨S3, ρ3, ks3, R3, E3, d3, q⟩ := q
      exact ⟨S3, ρ3, ks3, R3, (E'.trans E2'.xd).trans E3, d3, q⟩
    · exact hl.elim
  · have e : i = its.length := by omega
    subst e
    rw [List.drop_length] at hl
    obtain ⟨hg, hl⟩ := hl
    obtain ⟨hst, _⟩ := Sv S' Hc (linked_now L R' E'.same hg fun p hp => E'.fix _ (hgs' p hp))
    exact .inl ⟨hst, S', ρ', ks', R', E1.xs.xd.trans (E'.weak hF), d', hl⟩
/-- d = {}; st; return list(d) -/
def tDict (m : Nat) (tb : VD) : VS := fun ρ _ Qr => ρ[m]? = some .no ∧ tb ρ [] fun ρ1 ks => Qr (.list (ks.map PyData.str)) ρ1
theorem Rel.newD (h : Rel K B S H σ ρ) (hmB : m < B) (hm : ρ[m]? = some .no) (hD : H D = none) : Rel K B S (upd H D (.dK (kvT []))) (σ.set m (some (.ref D))) ρ := by
  have ne : ∀ {i : Nat} {s : Sl}, ρ[i]? = some s → s ≠ .no → m ≠ i := fun {i s} h1 h2 z => by
    subst z
    rw [hm] at h1
    cases h1
    exact h2 rfl
  have r := h.new0 (o := .dK (kvT [])) hD
  have oa : ∀ {b : Addr}, OwnAt (σ.set m (some (.ref D))) ρ b → OwnAt σ ρ b := fun {b} ⟨i, sl, h1, h2⟩ => ⟨i, sl, h1, by rw [List.getElem?_set_ne (ne h1.1 (fun z => by have := h1.2; rw [z] at this; cases this))] at h2; exact h2⟩
  refine ⟨by rw [List.length_set]; exact r.len, r.sub, fun i x e => ?_, fun i xs e => ?_, fun i k xs e => ?_, fun i j s t a h1 h2 h3 h4 => ?_, ?_⟩
  · obtain ⟨w, h1, h2⟩ := r.val i x e
    exact ⟨w, by rw [List.getElem?_set_ne (ne e (fun z => by cases z))]; exact h1, h2⟩
  · obtain ⟨a, vs, h1, h2⟩ := r.own i xs e
    exact ⟨a, vs, by rw [List.getElem?_set_ne (ne e (fun z => by cases z))]; exact h1, h2⟩
  · obtain ⟨a, vs, h1, h2, h3⟩ := r.ro i k xs e
    exact ⟨a, vs, by rw [List.getElem?_set_ne (ne e (fun z => by cases z))]; exact h1, h2.to (fun o ho _ => ho) (fun _ z => oa z), h3⟩
  · rw [List.getElem?_set_ne (ne h1.1 (fun z => by have := h1.2; rw [z] at this; cases this))] at h3
    rw [List.getElem?_set_ne (ne h2.1 (fun z => by have := h2.2; rw [z] at this; cases this))] at h4
    exact r.sep i j s t a h1 h2 h3 h4
  · exact r.vir.to (fun j s q l => ⟨q, List.getElem?_set_ne (ne q (fun z => by rw [z] at l; cases l))⟩) (fun m' hm' => List.getElem?_set_ne (by omega)) (fun _ _ _ _ _ _ _ q1 q2 => ⟨q1, q2⟩) (fun d c q1 q2 n => ⟨q2, q1, fun z => n (oa z)⟩)
theorem jss_dict {x : Str} {px pd pa p1 pl pc pr : Pos} {st : Stmt} {tb : VD} (nd : X.N.Nodup) (hc : X.calm = true) (hx : Sn X m x) (hn : Nm X m x) (hF : m ∉ F) (hg : Gl X "list") (hm : X.mg "list" = none) (hs : swapsWith (.Dict [] [] pd) (some (.Name x px)) pa.line X.env = pure false)
    (hb : JD X m F st tb) : JSs X true F [.Assign [.Name x px] (.Dict [] [] pd) pa, st, .Return (some (.Call (.Name "list" pl) [.Name x p1] [] pc)) pr] (tDict m tb) := by
  intro σ S H ρ Qn Qr hR ⟨h0, ht⟩
  refine WSs.of (pss_cons (ps_set nd hx.n hx.l pe_dnewK hs hx.f) (pss_cons psW (pss_cons (ps_ret (pe_callTy (T := "list") clW hg hm (by decide +kernel) (pa_cons hn.pe pa_nil (star_cons rfl)) (by decide) (by decide) (star_cons rfl) rfl)) pss_nil))) ?_
  intro D hD
  have R1 := hR.newD hx.b h0 hD
  have hlen : m < σ.length := by
    rw [hR.len]
    exact (List.getElem?_eq_some_iff.mp h0).1
  have hSD : S D = none := by
    cases e : S D with
    | none => rfl
    | some o =>
      rw [hR.sub _ _ e] at hD
      cases hD
  have d1 : Dk D m S (upd H D (.dK (kvT []))) (σ.set m (some (.ref D))) ρ [] := ⟨h0, List.getElem?_set_self hlen, hSD, upd_same⟩
  have E1 : XS F σ S H ρ (σ.set m (some (.ref D))) S (upd H D (.dK (kvT []))) ρ := by
    have a : XS F σ S H ρ σ S (upd H D (.dK (kvT []))) ρ := (Ext.new0 hR hD).xs
    have b := xs_set (σ := σ) (S := S) (H := upd H D (.dK (kvT []))) (ρ := ρ) (v := some (.ref D)) (s := .no) hF rfl
    have e : ρ.set m .no = ρ := by
      refine List.ext_getElem? fun i => ?_
      by_cases z : m = i
      · subst z
        rw [List.getElem?_set_self (List.getElem?_eq_some_iff.mp h0).1, h0]
      · rw [List.getElem?_set_ne z]
    rw [e] at b
    exact a.trans b
  refine (hb D _ S _ ρ [] _ R1 d1 ht).mono (fun σ2 H2 q => ?_) (fun v H3 q => q.elim) (fun _ _ q => q.elim) (fun _ _ q => q.elim)
  obtain ⟨S2, ρ2, ks, R2, E2, d2, q⟩ := q
  refine ⟨_, d2.pt, ?_⟩
  refine WCl.of (call_listD hc) ⟨D, kvT ks, rfl, .inl d2.h, fun n hn' => ?_⟩
  have eks : (kvT ks).map (fun kv => kV kv.1) = ks.map V.str := by
    unfold kvT
    rw [List.map_map]
    rfl
  rw [eks]
  have R3 := R2.new0 (o := .lst (ks.map V.str)) hn'
  have E3 : XD D F (σ.set m (some (.ref D))) S (upd H D (.dK (kvT []))) ρ σ2 S2 (upd H2 n (.lst (ks.map V.str))) ρ2 := E2.trans (Ext.new0 R2 hn').xs.xd
  have E4 : XD D F σ S H ρ σ2 S2 (upd H2 n (.lst (ks.map V.str))) ρ2 := E1.xd.trans E3
  refine ⟨σ2, S2, ρ2, .list (ks.map PyData.str), R3, E4.xs hD, .lst (R2.sub.free hn') upd_same (rps_of_strs ks) (.inr ?_), q⟩
  cases e : H n with
  | none => rfl
  | some o => exact absurd hn' (E2.there n (by
      by_cases z : n = D
      · rw [z, upd_same]; simp
      · rw [upd_ne z, e]; simp))
end
end WA

/-! WA17: defs that know that no text of a list is being made around them; str of data. -/
namespace WA
open PySem PySem.Spec PyProof.Rows L2
/-- as FnOk, where no guard stands around -/
structure FnG (P : Program) (w : World) (K : PySem.W.Frag) (mg : Str → Option Value) (base : Heap) (k : Nat) (f : Addr) (fd : FuncData) (ps : List Str) (sp : Sp) : Prop where
  len : ∀ zs Hp0 Qp Ep, sp zs Hp0 Qp Ep → zs.length = ps.length
  run : ∀ (A1 : Around) (fr : List Env) (s1 : Shared) (H1 : Hp) (ar : Args) (uz : List Value) (vz : List V) (Q1 : VK) (E1 : XK), Room k A1 → A1.guards = some [] → Env0 P w K mg base A1 fr s1 H1 → BindsTo s1 fd ar (ps.zip uz) → Vals vz uz →
    sp vz H1 Q1 E1 → codeAny (model P w) A1 (.call (.ref f) ar) (CR CX0 fr P w H1 s1 Q1 E1) s1
section
variable {P : Program} {w : World} {K : PySem.W.Frag} {mg : Str → Option Value} {base : Heap} {x qual : Str} {params : Arguments} {body : List Stmt} {scope : Scope} {f : Addr} {fd : FuncData}
theorem okG {N ps : List Str} {k : Nat} {sp : Sp} (F : FunD K x qual params body scope [] [] f fd) (Sc : FnScope N ps scope) (hl : ∀ zs Hp0 Qp Ep, sp zs Hp0 Qp Ep → zs.length = ps.length)
    (hb : ∀ (cdv : Value) (A1 : Around) (fr : List Env) (s1 : Shared) (H1 : Hp) (vz : List V) (Q1 : VK) (E1 : XK), Room k (A1.deeper (envOfC qual scope s1.heap.objs.size f cdv)) → A1.guards = some [] → sp vz H1 Q1 E1 →
      ∃ t, PSs (cxOf CX0 P w K mg base N qual scope f cdv A1 fr s1 H1 E1).nox body t ∧ t { nx := fun _ Hn => Q1 .non Hn, rt := Q1 } (start N vz) H1) : FnG P w K mg base (k + 1) f fd ps sp := by
  obtain ⟨c1, c2, c3, c4, c5, c6, c7, cdv, c8, c9, rfl, lk, hcd, _, _⟩ := F.ex
  refine ⟨hl, fun A1 fr s1 H1 ar uz vz Q1 E1 hr hg e0 hbd rv hsp => ?_⟩
  have kin := e0.mod.kin.keeps fun b o e => (e0.bs b o e).1
  have lim := e0.mod.nolimit.keeps fun b o e => (e0.bs b o e).1
  have hk : ((ps.zip uz).all fun y => scope.names.lookup y.1 == some .local || scope.names.lookup y.1 == some .cell) = true := by
    refine List.all_eq_true.mpr fun y hy => ?_
    obtain ⟨n, v⟩ := y
    rcases Sc.par n (List.of_mem_zip hy).1 with q | q
    · rw [q]; rfl
    · rw [q]; rfl
  refine Att.call_fn kin lim lk hcd hr.depth hbd hk (fun s2 xc => ?_) Sc.co Sc.gen Sc.kind
  obtain ⟨t, ht, hq⟩ := hb cdv A1 fr s1 H1 vz Q1 E1 (hr.deeper _) hg hsp
  have I : Inv (cxOf CX0 P w K mg base N qual scope f cdv A1 fr s1 H1 E1) [] (start N vz) H1 s2 := inv_start Sc hr.hd e0 (hl _ _ _ _ hsp) rv xc
  refine wpAny_mono ((PSs.nox ht).run [] s2 (start N vz) H1 _ I hq) (fun fl s3 hs => ?_) fun e s3 hs => hs
  cases fl with
  | ret u =>
    obtain ⟨v, σ3, H3, J, r3, q3⟩ := hs
    exact ⟨v, H3, J.os, J.bare, J.base, J.hok, r3, q3⟩
  | next =>
    obtain ⟨σ3, H3, J, q3⟩ := hs
    exact ⟨V.non, H3, J.os, J.bare, J.base, J.hok, rfl, q3⟩
  | brk => exact hs.elim fun _ ⟨_, _, z⟩ => z.elim
  | cont => exact hs.elim fun _ ⟨_, _, z⟩ => z.elim
end
/-! ### the call -/
section
variable {X : Cx} {k : Nat} {f : Addr} {fd : FuncData} {ps : List Str} {sp : Sp} {x : Str} {p pos : Pos} {e : Expr} {es : List Expr} {t : TA} {Ew : XK}
theorem pe_callG (F : FnG X.prog X.w X.K X.mg X.base k f fd ps sp) (hr : Room k X.A) (hgd : X.A.guards = some []) (hg : Gl X x) (hm : X.mg x = some (.ref f)) (hk : PySem.W.keepIn X.K (.ref f) = true) (hb : Binds X.K fd ps []) (ha : PA X (e :: es) t)
    (hdb : (x == ("__debug__" : Str)) = false) (he : starEach (e :: es) X.env = (false, eval e X.env) :: starEach es X.env) (hpl : (backTo pos (starEach es X.env)).any (·.1) = false) : PE X (.Call (.Name x p) (e :: es) [] pos) (tCall sp [] Ew t) := by
  constructor
  intro pins s0 σ H0 Q0 I0 h0
  refine wpAny_Call_Name_kw (ld_glob I0 hg hm (PySem.W.callWith_K (h₀ := X.base) I0.ok.mod.kin hk (thn (ha.run pos pins s0 σ H0 _ I0 h0) ?_) he hpl) hdb)
  rintro uz s1 ⟨vz, H1, I1, rv, q1⟩
  rw [List.append_nil] at q1
  have hl : uz.length = ps.length := by
    rw [← rv.length]
    exact F.len _ _ _ _ q1
  have hbt := hb s1 uz I1.kIn (by rw [List.append_nil]; exact hl)
  rw [List.append_nil] at hbt
  refine ⟨I1.kIn, wpAny_call (codeAny_mono (F.run X.A X.stack s1 H1 ⟨uz, []⟩ uz vz Q0 Ew hr hgd I1.env0 hbt rv q1) ?_)⟩
  intro res s2 hq
  cases res with
  | error ev => exact (show Passes CX0 X Ew from pass0) pins σ H1 s1 ev s2 I1 hq
  | ok fl =>
    cases fl with
    | ret u => exact I1.after hq
    | next => exact hq.elim
    | brk => exact hq.elim
    | cont => exact hq.elim
end
/-! ### the law -/
theorem lawG {P : Program} {w : World} {K : PySem.W.Frag} {mg mb : Str → Option Value} {k : Nat} {fa sc : Addr} {fd : FuncData} {x : Str} {sp : Sp} {s1 : Shared} {its : List Value} {ns : List Int}
    (kin : K.In s1.heap) (hns : s1.heap.Ns mainGlobals mg) (hbn : s1.heap.Ns builtinsNs mb) (hbb : ∀ y : Str, y ≠ "__name__" → mb y = bootBuiltins y) (lim : s1.heap.NoLimit) (hgen : s1.gens = #[])
    (hsc : s1.heap.get? sc = some { cls := .type "list", data := .seq its.toArray }) (hi : IntsAre its ns) (hz : ns.length ≤ sizeLine) (hr : Room k callerA)
    (F : ∀ base : Heap, K.In base → base.Ns mainGlobals mg → FnG P w K mg base k fa fd [x] sp) (hbd : ∀ (s : Shared) (u : Value), BindsTo s fd ⟨[u], []⟩ [(x, u)])
    (hsp : ∀ H : Hp, Only H → SqL K H sc (ns.map V.int) → sp [.ref sc] H (fun v _ => v = .bl true) fun _ _ _ => False) :
    codeAny (model P w) callerA (.call (.ref fa) ⟨[.ref sc], []⟩) (fun r s' => r = .ok (.ret (.bool true)) ∧ OldK s1.heap s'.heap ∧ s'.os = s1.os ∧ AllBare s'.gens) s1 := by
  have rv := vals_ints hi
  have hlen := hi.length
  have main : ∀ H : Hp, Only H → SqL K H sc (ns.map V.int) → HOk P w H s1.heap → (∀ b, H b ≠ none → b = sc) → (H sc ≠ none → K.lookup sc = none) →
      codeAny (model P w) callerA (.call (.ref fa) ⟨[.ref sc], []⟩) (fun r s' => r = .ok (.ret (.bool true)) ∧ OldK s1.heap s'.heap ∧ s'.os = s1.os ∧ AllBare s'.gens) s1 := by
    intro H only hsq hok one free
    have gone : ∀ {b : Addr}, (b = sc → False) → H b = none := fun {b} nb => by
      cases hq : H b with
      | none => rfl
      | some u => exact absurd (one b (by rw [hq]; exact fun z => by cases z)) nb
    have ns' : ∀ {b : Addr} {m : Str → Option Value}, s1.heap.Ns b m → (hidT s1.heap H).Ns b m := by
      rintro b m ⟨ob, es, ep, e1, e2, e3⟩
      refine ⟨ob, es, ep, hidT_get e1 (gone fun z => ?_), e2, e3⟩
      subst z
      rw [hsc] at e1
      cases e1
      cases e2
    have kin' : K.In (hidT s1.heap H) := by
      intro b ob hk
      refine hidT_get (kin b ob hk) ?_
      cases hq : H b with
      | none => rfl
      | some u =>
        have hb := one b (by rw [hq]; exact fun z => by cases z)
        subst hb
        rw [free (by rw [hq]; exact fun z => by cases z)] at hk
        cases hk
    obtain ⟨mc, l1, l2⟩ := lim
    have e0 : Env0 P w K mg (hidT s1.heap H) callerA [] s1 H :=
      ⟨rfl, ⟨kin', ns' hns, ⟨mb, ns' hbn, hbb⟩, ⟨mc, ns' l1, l2⟩⟩, fun b ob e => of_hidT e, Nat.le_of_eq (hidT_size _ _), trivial, fun b hb => absurd hb (by exact fun z => (List.not_mem_nil z).elim), hok, .of_eq hgen⟩
    have run := (F _ kin' (ns' hns)).run callerA [] s1 H ⟨[.ref sc], []⟩ [.ref sc] [.ref sc] _ _ hr rfl e0 (hbd s1 (.ref sc)) (.cons rfl .nil) (hsp H only hsq)
    refine codeAny_mono run ?_
    intro res s2 h
    cases res with
    | error ev => exact False.elim h
    | ok fl =>
      cases fl with
      | ret u =>
        obtain ⟨v, H2, o2, b2, un, hok2, r2, q2⟩ := h
        have q2 : v = .bl true := q2
        subst q2
        have r2 : u = Value.bool true := r2
        subst r2
        refine ⟨rfl, OldK.of_keep fun b ob e => ?_, o2, b2⟩
        rcases only b with z | ⟨fo, xs, z⟩
        · exact un.keep b ob e z (fun z => by cases z) (by simp)
        · have z2 := un.frzs b fo _ z
          have g1 := (hok b _ z).1
          have g2 := (hok2 b _ z2).1
          rw [e] at g1
          cases g1
          exact g2
      | next => exact h.elim
      | brk => exact h.elim
      | cont => exact h.elim
  by_cases hk : K.lookup sc = none
  · refine main (fun b => if b = sc then some (.frz { cls := .type "list", data := .seq its.toArray } (.lst (ns.map V.int))) else none) (fun b => ?_) (.inl (.inr ⟨_, if_pos rfl⟩)) (fun b u z => ?_) (fun b z => ?_) fun _ => hk
    · by_cases hb : b = sc
      · exact .inr ⟨_, _, if_pos hb⟩
      · exact .inl (if_neg hb)
    · by_cases hb : b = sc
      · have z := (if_pos hb).symm.trans z
        cases z
        rw [hb]
        exact ⟨hsc, by rw [List.length_map]; exact hz, its, _, rv, hsc⟩
      · have z := (if_neg hb).symm.trans z
        cases z
    · by_cases hb : b = sc
      · exact hb
      · exact absurd (if_neg hb) z
  · cases hq : K.lookup sc with
    | none => exact absurd hq hk
    | some ob =>
      have e := kin sc ob hq
      rw [hsc] at e
      cases e
      have sq : SqL K (fun _ => none) sc (ns.map V.int) := .inr ⟨_, its.toArray, _, hq, rfl, rfl, rfl, by rw [List.size_toArray, hlen]; exact hz, by simpa using rv⟩
      exact main (fun _ => none) (fun _ => .inl rfl) sq (fun b u z => by cases z) (fun b z => absurd rfl z) fun z => absurd rfl z
theorem walkG {l : PySem.W.OpenLaw} {n k : Nat} {q : Program} {loose : List Str} {XP : (Str → Option Value) → Heap → Prop} {YP : World → Heap → Prop} {d : DefRec} {x : Str} (hn : l.most = some n) (hn2 : n ≤ sizeLine) (hdf : d.params.defaults = []) (hr : Room k callerA)
    (F : ∀ (w : World) (mg : Str → Option Value) (fa : Addr) (h : Heap), YP w h → h.Ns mainGlobals mg → mg d.name = some (.ref fa) → ∃ (K : PySem.W.Frag) (fd : FuncData) (sp : Sp), K.In h ∧ (∀ (s : Shared) (u : Value), BindsTo s fd ⟨[u], []⟩ [(x, u)]) ∧
        (∀ (H : Hp) (a : Addr) (ns : List Int), ns.length ≤ n → Only H → SqL K H a (ns.map V.int) → sp [.ref a] H (fun v _ => v = .bl true) fun _ _ _ => False) ∧ ∀ base : Heap, K.In base → base.Ns mainGlobals mg → FnG l.prog w K mg base k fa fd [x] sp) :
    PySem.W.WalkO q loose XP YP l.row.toRowW d [] (fun f vs => PySem.call f vs) := by
  refine Att.attach_call hn hdf ?_
  intro w s0 s1 mg mb fa o pm cd doc a vs ns G Y ho hd hcd hmg hobj hints hlen hg
  obtain ⟨K, fd, sp, kin, hb, hsp, hF⟩ := F w mg fa s1.heap Y G.T.g hmg
  exact lawG kin G.T.g G.T.b G.T.builtins G.T.nolimit hg hobj hints (Nat.le_trans hlen hn2) hr hF hb fun H hO hS => hsp H a ns hlen hO hS
/-! ### a def's promise, where no guard stands around -/
structure KnownG (P : Program) (w : World) (K : PySem.W.Frag) (mg : Str → Option Value) (base : Heap) (lvl : Nat) (f : FSpec) : Prop where
  ok : ∃ (a : Addr) (fd : FuncData) (ps : List Str), FnG P w K mg base lvl a fd ps (spOf K f) ∧ mg f.name = some (.ref a) ∧ PySem.W.keepIn K (.ref a) = true ∧ Binds K fd ps []
  nd : (f.name == ("__debug__" : Str)) = false
section
variable {P : Program} {w : World} {K : PySem.W.Frag} {mg : Str → Option Value} {base : Heap}
theorem fn_okG {x qual : Str} {st : Stmt} {c : Addr} {fd : FuncData} {N ps : List Str} {k : Nat} {f : FSpec} {t : VS} (Fn : FunD K x qual (defArgs st) (defBody st) (defScope st) [] [] c fd) (Sc : FnScope N ps (defScope st)) (hlen : f.modes.length = ps.length)
    (body : ∀ (cdv : Value) (A : Around) (outer : List Env) (s : Shared) (H : Hp) (E : XK), Room k (A.deeper (envOfC qual (defScope st) s.heap.objs.size c cdv)) → (A.deeper (envOfC qual (defScope st) s.heap.objs.size c cdv)).guards = some [] →
      JSs (cxOf CX0 P w K mg base N qual (defScope st) c cdv A outer s H E).nox f.new (ownFrom f.modes 0) (defBody st) t)
    (plain : Plain f N.length t) : FnG P w K mg base (k + 1) c fd ps (spOf K f) := by
  refine okG Fn Sc (fun vs H Q E h => ?_) (fun cdv A outer s H vs Q E hr hg h => ?_)
  · obtain ⟨S, xs, os, rs, hS, A1, _⟩ := h
    rw [A1.len, hlen]
  · exact ⟨_, pssW, fn_core (body cdv A outer s H E hr hg) plain h⟩
theorem KnownF.g {lvl : Nat} {f : FSpec} (h : KnownF P w K mg base lvl f) : KnownG P w K mg base lvl f := by
  obtain ⟨a, fd, ps, F, h1, h2, h3⟩ := h.ok
  exact ⟨⟨a, fd, ps, ⟨F.len, fun A fr s H ar us vs Q E hr _ => F.run A fr s H ar us vs Q E hr⟩, h1, h2, h3⟩, h.nd⟩
end
section
variable {X : Cx} {pos p : Pos} {e : Expr} {es : List Expr} {lvl : Nat} {f : FSpec} {t : VA}
theorem call_coreG (hr : Room lvl X.A) (hgd : X.A.guards = some []) (k : KnownG X.prog X.w X.K X.mg X.base lvl f) (hg : Gl X f.name) (h : JA X (e :: es) t) (hs : (e :: es).all notStar = true) {σ : L2.St} {S H : Hp} {ρ : R} {Q : D → R → Prop} (hR : Rel X.K (bd X) S H σ ρ) (ht : tCallF f t ρ Q) {Q' : VK}
    (hq : ∀ (v : V) (r : D) (H1 S2 H2 : Hp) (ρ2 : R), Rel X.K (bd X) S2 H2 σ ρ2 → Ext σ S H ρ S2 H2 ρ2 → (∀ b, H b ≠ none → H1 b ≠ none) → ResR f.new H1 S2 H2 v r → Q r ρ2 → Q' v H2) : W X (.Call (.Name f.name p) (e :: es) [] pos) σ H Q' := by
  obtain ⟨a, fd, ps, F, hm, hk, hb⟩ := k.ok
  rw [List.all_cons, Bool.and_eq_true] at hs
  refine W.of (pe_callG (Ew := fun _ _ _ => False) F hr hgd hg hm hk hb paW k.nd (star_cons hs.1) (star_none hs.2)) ((h σ S H ρ _ hR ht).mono fun vs H1 q => ?_)
  obtain ⟨S1, ρ1, as, R1, E1, d1, q1⟩ := q
  split at q1
  · rename_i xs ex
    obtain ⟨hap, hpre, q1⟩ := q1
    obtain ⟨os, rs, A1, hp, hro⟩ := args_ok R1 d1 ex
    have hap' := hap
    rw [apartIx, Bool.and_eq_true] at hap'
    have hn := of_decide_eq_true hap'.1
    rw [List.append_nil]
    refine ⟨S1, xs, os, rs, R1.sub, A1, owns_nodup R1 hp hn, ro_apart R1 hp hro hap, hpre, fun r yss hpost v S2 H2 C O rr => ?_⟩
    obtain ⟨R2, E2⟩ := call_rel R1 hp hn C O
    exact hq v r H1 S2 H2 _ R2 (E1.trans E2) E1.there rr (q1 r yss hpost)
  · exact q1.elim
theorem je_callG (hr : Room lvl X.A) (hgd : X.A.guards = some []) (k : KnownG X.prog X.w X.K X.mg X.base lvl f) (hg : Gl X f.name) (h : JA X (e :: es) t) (hs : (e :: es).all notStar = true) (hf : f.new = false) : JE X (.Call (.Name f.name p) (e :: es) [] pos) (tCallF f t) := by
  intro σ S H ρ Q hR ht
  refine call_coreG hr hgd k hg h hs hR ht fun v r H1 S2 H2 ρ2 R2 E _ rr q => ?_
  rw [hf] at rr
  exact ⟨S2, ρ2, r, R2, E, rr.rp, q⟩
end
/-! ### str of data -/
section
variable {X : Cx} {pos p : Pos} {a : Expr} {ta : VT}
def strOk (x : D) : Prop := x.showable = true ∧ x.hasDict = false ∧ x.depth ≤ 60 ∧ x.shown.length ≤ sizeLine
theorem cr_strD (hgd : X.A.guards = some []) (hu : X.A.units + 64 < cLine) : CallR X (.type "str") (fun vs H Q => ∃ v x, vs = [v] ∧ Dp X.K H v x ∧ (∃ b, v = .ref b) ∧ strOk x ∧ Q (.str x.shown) H) := by
  intro pins s σ H vs us Q I r h
  obtain ⟨v, x, rfl, hd, ⟨b, rfl⟩, ⟨h1, h2, h3, h4⟩, q⟩ := h
  rw [Vals.ref1 r]
  obtain ⟨as, rd⟩ := Dp.reads I x (.ref b) (.ref b) hd rfl
  refine str_of_reads rd h1 (PyData.noDict_hsm h2) hgd (by omega) (fun _ _ e => e) (fun h' u tk hk => ?_) h4
  exact ⟨.str x.shown, H, I.kept (t' := tk) hk, ⟨_, rfl⟩, q⟩
def isSeqD : D → Bool
  | .list _ => true
  | .tuple _ => true
  | _ => false
def tStrD (ta : VT) : VE := fun ρ Q => ta ρ fun u ρ1 => match deref ρ1 u with
  | some x => isSeqD x = true ∧ strOk x ∧ Q (.str x.shown) ρ1
  | none => False
theorem je_strD (hgd : X.A.guards = some []) (hu : X.A.units + 64 < cLine) (hg : Gl X "str") (hm : X.mg "str" = none) (ha : JT X a ta) (hs : notStar a = true) : JE X (.Call (.Name "str" p) [a] [] pos) (tStrD ta) := by
  intro σ S H ρ Q hR ht
  refine W.of (pe_callTy (T := "str") (cr_strD hgd hu) hg hm (by decide +kernel) (pa_cons peW pa_nil (star_cons hs)) (by decide) (by decide) (star_cons hs) rfl) ((ha σ S H ρ _ hR ht).mono fun v H1 q => ?_)
  obtain ⟨S1, ρ1, u, R1, E1, d1, q1⟩ := q
  split at q1
  · rename_i x e1
    obtain ⟨h1, h2, q1⟩ := q1
    have dp := d1.dp R1 e1
    refine ⟨v, x, rfl, dp, ?_, h2, S1, ρ1, _, R1, E1, .str _, q1⟩
    cases dp <;> first | exact ⟨_, rfl⟩ | cases h1
  · exact q1.elim
end
/-! several names = a list -/
section
variable {X : Cx} {new : Fs} {F : List Nat} {pos : Pos} {e : Expr}
def tAsgL (is : List Nat) (t : VT) : VS := fun ρ Qn _ => t ρ fun u ρ1 => match deref ρ1 u with
  | some (.list xs) => match putN ρ1 is xs with
    | some ρ2 => Qn ρ2
    | none => False
  | _ => False
theorem js_asgL {is : List Nat} {tg : Expr} {t : VT} (h : JT X e t) (hg : PG X tg (gUnl X.K is.length (gNames is))) (hF : ∀ i ∈ is, i ∉ F) (hB : (is.all fun i => decide (i < bd X)) = true) (hs : swapsWithSole [tg] e pos.line X.env = pure false) (hw : swappedStores [tg] e X.env = pure none)
    (h1 : (assignEach [tg] X.env).map (·.2) = [assign tg X.env]) : JS X new F (.Assign [tg] e pos) (tAsgL is t) := by
  intro σ S H ρ Qn Qr hR ht
  refine WS.of (ps_asg peW hg hs hw h1) ((h σ S H ρ _ hR ht).mono fun v H1 q => ?_)
  obtain ⟨S1, ρ1, u, R1, E1, d1, q1⟩ := q
  split at q1
  · rename_i xs ex
    obtain ⟨p, vs, rfl, hp, hd⟩ := d1.list R1 ex
    split at q1
    · rename_i ρ2 e2
      have len : ∀ {is : List Nat} {xs : List D} {ρ ρ2 : R}, putN ρ is xs = some ρ2 → is.length = xs.length := fun {is} => by
        induction is with
        | nil => intro xs ρ ρ2 h; cases xs with
          | nil => rfl
          | cons _ _ => cases h
        | cons i is ih => intro xs ρ ρ2 h; cases xs with
          | nil => cases h
          | cons x xs => exact congrArg (· + 1) (ih h)
      exact ⟨p, vs, rfl, hp, by rw [rps_len hd, len e2], names_ok hF (fun i hi => of_decide_eq_true (List.all_eq_true.mp hB i hi)) R1 hd e2 fun σ2 R2 E2 => ⟨S1, ρ2, R2, E1.xs.trans E2, q1⟩⟩
    · exact q1.elim
  · exact q1.elim
end
end WA

/-! WA18: things made of parts: lists and tuples whose items stand in slots of their own. -/
namespace WA
open PySem PySem.Spec PyProof.Rows L2
/-- slots that a slot leans on -/
def Sl.on : Sl → List Nat
  | .st _ is => is
  | .al j => [j]
  | _ => []
/-- no other slot leans on m -/
def freeAt (ρ : R) (i m : Nat) : Prop := ∀ (j : Nat) (s : Sl), j ≠ i → ρ[j]? = some s → m ∉ s.on
section
variable {K : PySem.W.Frag} {B : Nat} {S H S' H' : Hp} {σ σ' : L2.St} {ρ ρ' : R}
theorem VRel.to2 (v : VRel B S H σ ρ) (h1 : ∀ (i : Nat) (s : Sl), ρ'[i]? = some s → s.leans = true → ρ[i]? = some s ∧ σ'[i]? = σ[i]? ∧ ∀ m ∈ s.on, σ'[m]? = σ[m]?)
    (h4 : ∀ (d c : Addr), H d = some (.own c) → S d = none → ¬ OwnAt σ ρ d → ¬ OwnAt σ' ρ' d) : VRel B S H σ' ρ' where
  st := fun i k is h => by
    obtain ⟨g1, g2, g3⟩ := h1 i _ h rfl
    obtain ⟨a, vs, o, e1, e2, e3, e4, e5⟩ := v.st i k is g1
    have go : ∀ {vs : List V} {is : List Nat}, (∀ m ∈ is, σ'[m]? = σ[m]?) → Paired (fun (v : V) (m : Nat) => B ≤ m ∧ σ[m]? = some (some v)) vs is → Paired (fun (v : V) (m : Nat) => B ≤ m ∧ σ'[m]? = some (some v)) vs is := by
      intro vs is hm p
      induction p with
      | nil => exact .nil
      | cons r t ih => exact .cons ⟨r.1, by rw [hm _ List.mem_cons_self]; exact r.2⟩ (ih fun m hm' => hm m (List.mem_cons_of_mem _ hm'))
    exact ⟨a, vs, o, by rw [g2]; exact e1, e2, e3, e4, go g3 e5⟩
  al := fun i j h => by
    obtain ⟨g1, g2, g3⟩ := h1 i _ h rfl
    obtain ⟨e1, w, e2, e3⟩ := v.al i j g1
    exact ⟨e1, w, by rw [g2]; exact e2, by rw [g3 j (by simp [Sl.on])]; exact e3⟩
  dx := fun i C fs is a d us h ha hH => by
    obtain ⟨g1, g2, _⟩ := h1 i _ h rfl
    rw [g2] at ha
    obtain ⟨q1, q2⟩ := v.dx i C fs is a d us g1 ha hH
    obtain ⟨a', vs, o, e1, e2, e3, e4, e5⟩ := v.st i _ is g1
    rw [ha] at e1
    cases e1
    rw [hH] at e3
    cases e3
    obtain ⟨l, d', q, hd⟩ := e4
    cases q
    exact ⟨q1, h4 d _ hd q1 q2⟩
/-- a slot that no other leans on is given anew: nothing told of it, a value -/
theorem Rel.setn {i : Nat} {v : Option V} (h : Rel K B S H σ ρ) (hf : freeAt ρ i i) : Rel K B S H (σ.set i v) (ρ.set i .no) := by
  refine ⟨by rw [List.length_set, List.length_set]; exact h.len, h.sub, fun j x hx => ?_, fun j zs hx => ?_, fun j k zs hx => ?_, fun j k s t b h1 h2 h3 h4 => sep_set rfl h h1 h2 h3 h4, h.vir.to2 (fun j s q l => ?_) fun d c q1 q2 n z => n (own_set rfl z)⟩
  · rcases get_set hx with ⟨rfl, q, hi⟩ | ⟨n, q⟩
    · cases q
    · rw [List.getElem?_set_ne (fun z => n z.symm)]
      exact h.val j x q
  · rcases get_set hx with ⟨rfl, q, hi⟩ | ⟨n, q⟩
    · cases q
    · rw [List.getElem?_set_ne (fun z => n z.symm)]
      exact h.own j zs q
  · rcases get_set hx with ⟨rfl, q, hi⟩ | ⟨n, q⟩
    · cases q
    · obtain ⟨b, ws, b1, b2, b3⟩ := h.ro j k zs q
      exact ⟨b, ws, by rw [List.getElem?_set_ne (fun z => n z.symm)]; exact b1, b2.to (fun o e _ => e) (fun _ z => own_set rfl z), b3⟩
  · rcases get_set q with ⟨rfl, q, _⟩ | ⟨n, q⟩
    · rw [q] at l; cases l
    · exact ⟨q, List.getElem?_set_ne (fun z => n z.symm), fun m hm => List.getElem?_set_ne fun z => hf j s n q (by rw [z]; exact hm)⟩
/-- a slot of which nothing is told: what it holds is a value -/
theorem Rel.tellv {i : Nat} {v : V} {d : D} (h : Rel K B S H σ ρ) (hn : ρ[i]? = some .no) (hs : σ[i]? = some (some v)) (hv : Rp S v d) : Rel K B S H σ (ρ.set i (.v d)) := by
  have hi : i < ρ.length := (List.getElem?_eq_some_iff.mp hn).1
  have e : σ.set i (some v) = σ := by
    refine List.ext_getElem? fun j => ?_
    by_cases z : i = j
    · subst z
      rw [List.getElem?_set_self (by rw [h.len]; exact hi), hs]
    · rw [List.getElem?_set_ne z]
  have oa : ∀ {b : Addr}, OwnAt σ (ρ.set i (.v d)) b → OwnAt σ ρ b := fun {b} z => by
    have := own_set (σ := σ) (ρ := ρ) (i := i) (v := some v) (s := .v d) rfl (b := b) (by rw [e]; exact z)
    exact this
  refine ⟨by rw [List.length_set]; exact h.len, h.sub, fun j x hx => ?_, fun j zs hx => ?_, fun j k zs hx => ?_, fun j k s t b h1 h2 h3 h4 => ?_, h.vir.to2 (fun j s q l => ?_) fun d c q1 q2 n z => n (oa z)⟩
  · rcases get_set hx with ⟨rfl, q, hi⟩ | ⟨n, q⟩
    · cases q
      exact ⟨v, hs, hv⟩
    · exact h.val j x q
  · rcases get_set hx with ⟨rfl, q, hi⟩ | ⟨n, q⟩
    · cases q
    · exact h.own j zs q
  · rcases get_set hx with ⟨rfl, q, hi⟩ | ⟨n, q⟩
    · cases q
    · obtain ⟨b, ws, b1, b2, b3⟩ := h.ro j k zs q
      exact ⟨b, ws, b1, b2.to (fun o e _ => e) (fun _ z => oa z), b3⟩
  · refine sep_set (i := i) (v := some v) (s := .v d) rfl h h1 h2 (by rw [e]; exact h3) (by rw [e]; exact h4)
  · rcases get_set q with ⟨rfl, q, _⟩ | ⟨n, q⟩
    · rw [q] at l; cases l
    · exact ⟨q, rfl, fun _ _ => rfl⟩
/-- .. or a thing that it holds alone -/
theorem Rel.tello {i : Nat} {c : Addr} {s : Sl} (h : Rel K B S H σ ρ) (hn : ρ[i]? = some .no) (hs : σ[i]? = some (some (.ref c))) (ho : s.owns = true) (hnew : ¬ OwnAt σ ρ c) (hc : S c = none) (hob : ∃ u, H c = some u ∧ ownable u = true)
    (hro : ∀ (j : Nat) (k : Bool) (xs : List D), ρ[j]? = some (.ro k xs) → ∃ b, σ[j]? = some (some (.ref b)) ∧ (b ≠ c ∨ (k = false ∧ ∃ ws, KL K b ws ∧ RpAll S ws xs)))
    (hown : ∀ xs, s = .own xs → ∃ vs, H c = some (.lst vs) ∧ RpAll S vs xs)
    (hst : ∀ k is, s = .st k is → ∃ (vs : List V) (o : HO), H c = some o ∧ k.objR H c vs o ∧ Paired (fun (v : V) (m : Nat) => B ≤ m ∧ σ[m]? = some (some v)) vs is)
    (hdx : ∀ C fs is d us, s = .st (.ins C fs) is → H c = some (.ins C d us) → S d = none ∧ ¬ OwnAt σ ρ d) : Rel K B S H σ (ρ.set i s) := by
  have hi : i < ρ.length := (List.getElem?_eq_some_iff.mp hn).1
  have oa : ∀ {b : Addr}, b ≠ c → OwnAt σ (ρ.set i s) b → OwnAt σ ρ b := fun {b} hb ⟨m, us, hm, e⟩ => by
    rcases get_set hm.1 with ⟨rfl, q', hm'⟩ | ⟨n', q'⟩
    · rw [hs] at e
      cases e
      exact absurd rfl hb
    · exact ⟨m, us, ⟨q', hm.2⟩, e⟩
  have nown : ∀ {d e : Addr}, H d = some (.own e) → d ≠ c := fun {d e} q z => by
    obtain ⟨u, h1, h2⟩ := hob
    rw [z, h1] at q
    cases q
    cases h2
  refine ⟨by rw [List.length_set]; exact h.len, h.sub, fun j x hx => ?_, fun j zs hx => ?_, fun j k zs hx => ?_, fun j k p t b h1 h2 h3 h4 => ?_, ⟨fun j k is q => ?_, fun j k q => ?_, fun j C fs is a d us q ha hH => ?_⟩⟩
  · rcases get_set hx with ⟨rfl, q, _⟩ | ⟨n, q⟩
    · rw [← q] at ho; cases ho
    · exact h.val j x q
  · rcases get_set hx with ⟨rfl, q, _⟩ | ⟨n, q⟩
    · obtain ⟨vs, h1, h2⟩ := hown zs q.symm
      exact ⟨c, vs, hs, hc, h1, h2⟩
    · exact h.own j zs q
  · rcases get_set hx with ⟨rfl, q, _⟩ | ⟨n, q⟩
    · rw [← q] at ho; cases ho
    · obtain ⟨b, ws, b1, b2, b3⟩ := h.ro j k zs q
      obtain ⟨b', g1, g2⟩ := hro j k zs q
      rw [b1] at g1
      cases g1
      rcases g2 with g2 | ⟨rfl, us, g2, g3⟩
      · exact ⟨b, ws, b1, b2.to (fun o e _ => e) (fun _ z => oa g2 z), b3⟩
      · exact ⟨b, us, b1, .inl ⟨rfl, g2⟩, g3⟩
  · rcases get_set h1.1 with ⟨rfl, q, hj⟩ | ⟨n1, q1⟩
    · rcases get_set h2.1 with ⟨rfl, _, _⟩ | ⟨n2, q2⟩
      · rfl
      · rw [hs] at h3
        cases h3
        exact absurd ⟨k, t, ⟨q2, h2.2⟩, h4⟩ hnew
    · rcases get_set h2.1 with ⟨rfl, _, hk⟩ | ⟨n2, q2⟩
      · rw [hs] at h4
        cases h4
        exact absurd ⟨j, p, ⟨q1, h1.2⟩, h3⟩ hnew
      · exact h.sep _ _ _ _ b ⟨q1, h1.2⟩ ⟨q2, h2.2⟩ h3 h4
  · rcases get_set q with ⟨rfl, q, _⟩ | ⟨n, q⟩
    · obtain ⟨vs, o, h1, h2, h3⟩ := hst k is q.symm
      exact ⟨c, vs, o, hs, hc, h1, h2, h3⟩
    · exact h.vir.st j k is q
  · rcases get_set q with ⟨rfl, q, _⟩ | ⟨n, q⟩
    · rw [← q] at ho; cases ho
    · exact h.vir.al j k q
  · rcases get_set q with ⟨rfl, q, _⟩ | ⟨n, q⟩
    · rw [hs] at ha
      cases ha
      obtain ⟨q1, q2⟩ := hdx C fs is d us q.symm hH
      obtain ⟨vs, o, h1, h2, h3⟩ := hst _ is q.symm
      rw [hH] at h1
      cases h1
      obtain ⟨l, d', e, hd⟩ := h2
      cases e
      exact ⟨q1, fun z => q2 (oa (nown hd) z)⟩
    · obtain ⟨q1, q2⟩ := h.vir.dx j C fs is a d us q ha hH
      obtain ⟨a', vs, o, e1, e2, e3, e4, e5⟩ := h.vir.st j _ is q
      rw [ha] at e1
      cases e1
      rw [hH] at e3
      cases e3
      obtain ⟨l, d', e, hd⟩ := e4
      cases e
      exact ⟨q1, fun z => q2 (oa (nown hd) z)⟩
/-- .. or a second name of what stands in another slot -/
theorem Rel.tella {i j : Nat} {v : V} (h : Rel K B S H σ ρ) (hn : ρ[i]? = some .no) (hs : σ[i]? = some (some v)) (hj : B ≤ j) (hv : σ[j]? = some (some v)) : Rel K B S H σ (ρ.set i (.al j)) := by
  have oa : ∀ {b : Addr}, OwnAt σ (ρ.set i (.al j)) b → OwnAt σ ρ b := fun {b} ⟨m, us, hm, e⟩ => by
    rcases get_set hm.1 with ⟨rfl, q', hm'⟩ | ⟨n', q'⟩
    · have := hm.2
      rw [q'] at this; cases this
    · exact ⟨m, us, ⟨q', hm.2⟩, e⟩
  refine ⟨by rw [List.length_set]; exact h.len, h.sub, fun j x hx => ?_, fun j zs hx => ?_, fun j k zs hx => ?_, fun j k p t b h1 h2 h3 h4 => ?_, ⟨fun j k is q => ?_, fun k l q => ?_, fun j C fs is a d us q ha hH => ?_⟩⟩
  · rcases get_set hx with ⟨rfl, q, _⟩ | ⟨n, q⟩
    · cases q
    · exact h.val j x q
  · rcases get_set hx with ⟨rfl, q, _⟩ | ⟨n, q⟩
    · cases q
    · exact h.own j zs q
  · rcases get_set hx with ⟨rfl, q, _⟩ | ⟨n, q⟩
    · cases q
    · obtain ⟨b, ws, b1, b2, b3⟩ := h.ro j k zs q
      exact ⟨b, ws, b1, b2.to (fun o e _ => e) (fun _ z => oa z), b3⟩
  · rcases get_set h1.1 with ⟨rfl, q, _⟩ | ⟨n1, q1⟩
    · have := h1.2
      rw [q] at this; cases this
    · rcases get_set h2.1 with ⟨rfl, q, _⟩ | ⟨n2, q2⟩
      · have := h2.2
        rw [q] at this; cases this
      · exact h.sep _ _ _ _ b ⟨q1, h1.2⟩ ⟨q2, h2.2⟩ h3 h4
  · rcases get_set q with ⟨rfl, q, _⟩ | ⟨n, q⟩
    · cases q
    · exact h.vir.st j k is q
  · rcases get_set q with ⟨rfl, q, _⟩ | ⟨n, q⟩
    · cases q
      exact ⟨hj, v, hs, hv⟩
    · exact h.vir.al k l q
  · rcases get_set q with ⟨rfl, q, _⟩ | ⟨n, q⟩
    · cases q
    · obtain ⟨q1, q2⟩ := h.vir.dx j C fs is a d us q ha hH
      exact ⟨q1, fun z => q2 (oa z)⟩
end
/-! ### slots that are no names of the text -/
def invis (X : Cx) (m : Nat) : Bool := match X.N[m]? with
  | some x => (X.env.scope.names.lookup x).isNone
  | none => true
def vok (X : Cx) (is : List Nat) : Bool := (is.all fun m => decide (bd X ≤ m) && invis X m) && decide is.Nodup
def VirEq (X : Cx) (σ σ' : L2.St) : Prop := σ'.length = σ.length ∧ ∀ (i : Nat) (x : Str), X.N[i]? = some x → Vis X.env.scope x → σ'[i]? = σ[i]?
theorem VirEq.refl {X : Cx} {σ : L2.St} : VirEq X σ σ := ⟨rfl, fun _ _ _ _ => rfl⟩
theorem VirEq.set {X : Cx} {σ σ' : L2.St} {m : Nat} {v : Option V} (h : VirEq X σ σ') (hm : invis X m = true) : VirEq X σ (σ'.set m v) := by
  refine ⟨by rw [List.length_set]; exact h.1, fun i x hx hv => ?_⟩
  have : m ≠ i := fun z => by
    subst z
    unfold invis at hm
    rw [hx] at hm
    have hm : X.env.scope.names.lookup x = none := Option.isNone_iff_eq_none.mp hm
    rcases hv with q | q | q <;> (rw [hm] at q; cases q)
  rw [List.getElem?_set_ne this]
  exact h.2 i x hx hv
theorem inv_vir {X : Cx} {pins : List (Addr × Obj)} {σ σ' : L2.St} {H : Hp} {s : Shared} (I : Inv X pins σ H s) (h : VirEq X σ σ') : Inv X pins σ' H s := by
  obtain ⟨m, h1, h2⟩ := I.loc
  exact ⟨I.ok, I.os, I.bare, I.base, ⟨m, h1, fun i x v hx hv hvis => h2 i x v hx (by rw [← h.2 i x hx hvis]; exact hv) hvis⟩, I.cell, I.free, I.freeC, I.pin, I.hok, by rw [h.1]; exact I.len⟩
/-- what is wanted behind a statement, with such slots given anew -/
theorem WS.vir {X : Cx} {st : Stmt} {D : Ends} {σ : L2.St} {H : Hp} (h : WS X st { D with nx := fun σ' H' => ∃ σ'', VirEq X σ' σ'' ∧ D.nx σ'' H' } σ H) : WS X st D σ H := fun pins s I =>
  thn (h pins s I) fun f s' q => by
    cases f with
    | next =>
      obtain ⟨σ', H', I', σ'', hv, q⟩ := q
      exact ⟨σ'', H', inv_vir I' hv, q⟩
    | brk => exact q
    | cont => exact q
    | ret u => exact q
/-! ### parts of a display -/
inductive CV where
  | val (x : D)
  | new (xs : List D)
abbrev VM := R → (List CV → R → Prop) → Prop
def CompR (S' H0 H' : Hp) (v : V) : CV → Prop
  | .val x => Rp S' v x
  | .new xs => ∃ a ws, v = .ref a ∧ H0 a = none ∧ S' a = none ∧ H' a = some (.lst ws) ∧ RpAll S' ws xs
def newA : List V → List CV → List Addr
  | .ref a :: vs, .new _ :: cs => a :: newA vs cs
  | _ :: vs, _ :: cs => newA vs cs
  | _, _ => []
def PostM (X : Cx) (σ : L2.St) (S H : Hp) (ρ : R) (Q : List CV → R → Prop) : List V → Hp → Prop := fun vs H' => ∃ S' ρ' cs, Rel X.K (bd X) S' H' σ ρ' ∧ Ext σ S H ρ S' H' ρ' ∧ Paired (CompR S' H H') vs cs ∧ (newA vs cs).Nodup ∧ Q cs ρ'
def JM (X : Cx) (es : List Expr) (t : VM) : Prop := ∀ σ S H ρ Q, Rel X.K (bd X) S H σ ρ → t ρ Q → WAr X es σ H (PostM X σ S H ρ Q)
def tMNil : VM := fun ρ Q => Q [] ρ
def tMVal (t : VT) (u : VM) : VM := fun ρ Q => t ρ fun x ρ1 => match x with
  | .val d => u ρ1 fun cs ρ2 => Q (.val d :: cs) ρ2
  | _ => False
def tMNew (t : VE) (u : VM) : VM := fun ρ Q => t ρ fun x ρ1 => match x with
  | .list xs => u ρ1 fun cs ρ2 => Q (.new xs :: cs) ρ2
  | _ => False
section
variable {X : Cx} {e : Expr} {es : List Expr} {σ : L2.St} {S H : Hp} {ρ : R}
theorem comp_back {S2 H1 H2 : Hp} (th : ∀ b, H b ≠ none → H1 b ≠ none) {vs : List V} {cs : List CV} (h : Paired (CompR S2 H1 H2) vs cs) : Paired (CompR S2 H H2) vs cs := by
  refine Paired.mapP h fun v c q => ?_
  cases c with
  | val x => exact q
  | new xs =>
    obtain ⟨a, ws, h1, h2, h3⟩ := q
    refine ⟨a, ws, h1, ?_, h3⟩
    cases e : H a with
    | none => rfl
    | some o => exact absurd h2 (th a (by rw [e]; simp))
theorem newA_in {S2 H1 H2 : Hp} : ∀ {vs : List V} {cs : List CV}, Paired (CompR S2 H1 H2) vs cs → ∀ a ∈ newA vs cs, H1 a = none
  | _, _, .nil, a, h => absurd h (by simp [newA])
  | _, _, .cons (a := v) (b := c) r t, a, h => by
    cases c with
    | val x =>
      cases v <;> exact newA_in t a h
    | new xs =>
      obtain ⟨b, ws, rfl, h1, _⟩ := r
      rcases List.mem_cons.mp h with rfl | h
      · exact h1
      · exact newA_in t a h
theorem newA_val {v : V} {x : D} {vs : List V} {cs : List CV} : newA (v :: vs) (.val x :: cs) = newA vs cs := by cases v <;> rfl
theorem jm_nil : JM X [] tMNil := fun σ S H ρ Q hR ht => WAr.of pa_nil ⟨S, ρ, [], hR, .refl, .nil, by simp [newA], ht⟩
theorem jm_val {ta : VT} {u : VM} (ha : JT X e ta) (hb : JM X es u) (hs : notStar e = true) : JM X (e :: es) (tMVal ta u) := by
  intro σ S H ρ Q hR ht
  refine WAr.of (pa_cons peW paW (star_cons hs)) ((ha σ S H ρ _ hR ht).mono fun v H1 q => ?_)
  obtain ⟨S1, ρ1, x, R1, E1, d1, q1⟩ := q
  split at q1
  · rename_i d
    refine (hb σ S1 H1 ρ1 _ R1 q1).mono fun vs H2 q => ?_
    obtain ⟨S2, ρ2, cs, R2, E2, d2, nd, q2⟩ := q
    exact ⟨S2, ρ2, .val d :: cs, R2, E1.trans E2, .cons (Rp.mono d1 E2.same) (comp_back E1.there d2), by rw [newA_val]; exact nd, q2⟩
  · exact q1.elim
theorem jm_new {te : VE} {u : VM} (ha : JN X e te) (hb : JM X es u) (hs : notStar e = true) : JM X (e :: es) (tMNew te u) := by
  intro σ S H ρ Q hR ht
  refine WAr.of (pa_cons peW paW (star_cons hs)) ((ha σ S H ρ _ hR ht).mono fun v H1 q => ?_)
  obtain ⟨S1, ρ1, c, ws, xs, R1, E1, rfl, hc, hcs, hcl, hd, q1⟩ := q
  have nc : ¬ OwnAt σ ρ1 c := fun z => own_new hR hc (E1.at.mpr z)
  refine (hb σ S1 H1 ρ1 _ R1 q1).mono fun vs H2 q => ?_
  obtain ⟨S2, ρ2, cs, R2, E2, d2, nd, q2⟩ := q
  refine ⟨S2, ρ2, .new xs :: cs, R2, E1.trans E2, .cons ⟨c, ws, rfl, hc, E2.stay c (by rw [hcl]; simp) hcs, E2.keep c _ hcl hcs nc, hd.mono E2.same⟩ (comp_back E1.there d2), ?_, q2⟩
  show (c :: newA vs cs).Nodup
  refine List.nodup_cons.mpr ⟨fun hm => ?_, nd⟩
  have := newA_in d2 c hm
  rw [hcl] at this
  cases this
end
/-! ### parts are put into their slots -/
def setL : L2.St → List Nat → List V → L2.St
  | σ, m :: ms, v :: vs => setL (σ.set m (some v)) ms vs
  | σ, _, _ => σ
def CV.sl : CV → Sl
  | .val x => .v x
  | .new xs => .own xs
def putC : R → List Nat → List CV → R
  | ρ, m :: ms, c :: cs => putC (ρ.set m c.sl) ms cs
  | ρ, _, _ => ρ
/-- no slot leans on these -/
def noLean (ρ : R) (is : List Nat) : Bool := ρ.all fun s => s.on.all fun m => !is.contains m
theorem noLean_at {ρ : R} {is : List Nat} (h : noLean ρ is = true) {j m : Nat} {s : Sl} (hs : ρ[j]? = some s) (hm : m ∈ is) : m ∉ s.on := fun z => by
  have h1 := List.all_eq_true.mp h s (List.mem_of_getElem? hs)
  have h2 := List.all_eq_true.mp h1 m z
  rw [List.contains_iff_mem.mpr hm] at h2
  cases h2
section
variable {K : PySem.W.Frag} {B : Nat} {S H H0 : Hp} {σ : L2.St} {ρ : R}
theorem setL_len : ∀ {σ : L2.St} {is : List Nat} {vs : List V}, (setL σ is vs).length = σ.length
  | _, [], _ => rfl
  | _, _ :: _, [] => rfl
  | σ, m :: ms, v :: vs => by
    show (setL (σ.set m (some v)) ms vs).length = _
    rw [setL_len, List.length_set]
theorem setL_out : ∀ {σ : L2.St} {is : List Nat} {vs : List V} {j : Nat}, j ∉ is → (setL σ is vs)[j]? = σ[j]?
  | _, [], _, _, _ => rfl
  | _, _ :: _, [], _, _ => rfl
  | σ, m :: ms, v :: vs, j, h => by
    show (setL (σ.set m (some v)) ms vs)[j]? = _
    rw [setL_out fun z => h (List.mem_cons_of_mem _ z), List.getElem?_set_ne fun z => h (by simp [z])]
theorem setL_vir {X : Cx} {σ0 : L2.St} : ∀ {σ : L2.St} {is : List Nat} {vs : List V}, (∀ m ∈ is, invis X m = true) → VirEq X σ0 σ → VirEq X σ0 (setL σ is vs)
  | _, [], _, _, h => h
  | _, _ :: _, [], _, h => h
  | σ, m :: ms, v :: vs, hm, h => by
    show VirEq X σ0 (setL (σ.set m (some v)) ms vs)
    exact setL_vir (fun k hk => hm k (List.mem_cons_of_mem _ hk)) (h.set (hm m List.mem_cons_self))
theorem putC_out : ∀ {ρ : R} {is : List Nat} {cs : List CV} {j : Nat}, j ∉ is → (putC ρ is cs)[j]? = ρ[j]?
  | _, [], _, _, _ => rfl
  | _, _ :: _, [], _, _ => rfl
  | ρ, m :: ms, c :: cs, j, h => by
    show (putC (ρ.set m c.sl) ms cs)[j]? = _
    rw [putC_out fun z => h (List.mem_cons_of_mem _ z), List.getElem?_set_ne fun z => h (by simp [z])]
theorem putC_len : ∀ {ρ : R} {is : List Nat} {cs : List CV}, (putC ρ is cs).length = ρ.length
  | _, [], _ => rfl
  | _, _ :: _, [] => rfl
  | ρ, m :: ms, c :: cs => by
    show (putC (ρ.set m c.sl) ms cs).length = _
    rw [putC_len, List.length_set]
/-- read lists stand where they stood -/
def RoOld (K : PySem.W.Frag) (S H0 : Hp) (σ : L2.St) (ρ : R) : Prop := ∀ (j : Nat) (k : Bool) (xs : List D), ρ[j]? = some (.ro k xs) → ∃ b, σ[j]? = some (some (.ref b)) ∧ (H0 b ≠ none ∨ (k = false ∧ ∃ ws, KL K b ws ∧ RpAll S ws xs))
theorem RoOld.set {m : Nat} {v : Option V} {s : Sl} (h : RoOld K S H0 σ ρ) (hs : ∀ k xs, s ≠ .ro k xs) : RoOld K S H0 (σ.set m v) (ρ.set m s) := fun j k xs q => by
  rcases get_set q with ⟨rfl, q, _⟩ | ⟨n, q⟩
  · exact absurd q.symm (hs k xs)
  · rw [List.getElem?_set_ne fun z => n z.symm]
    exact h j k xs q
theorem RoOld.of {S1 H1 : Hp} {ρ1 : R} (h : Rel K B S H σ ρ) (E : Ext σ S H ρ S1 H1 ρ1) : RoOld K S1 H σ ρ1 := fun j k xs q => by
  have no : ∀ ys, ρ[j]? ≠ some (.own ys) := fun ys q' => by
    obtain ⟨zs', q''⟩ := (E.kind j).mp ⟨ys, q'⟩
    rw [q] at q''
    cases q''
  have e1 : ρ[j]? = some (.ro k xs) := by rw [← E.oth j no]; exact q
  obtain ⟨b, ws, b1, b2, b3⟩ := h.ro j k xs e1
  refine ⟨b, b1, ?_⟩
  rcases b2 with ⟨rfl, g⟩ | ⟨⟨o, _, g⟩, _⟩
  · exact .inr ⟨rfl, ws, g, b3.mono E.same⟩
  · exact .inl (by rw [g]; simp)
theorem RoOld.at {c : Addr} (h : RoOld K S H0 σ ρ) (hc : H0 c = none) : ∀ (j : Nat) (k : Bool) (xs : List D), ρ[j]? = some (.ro k xs) → ∃ b, σ[j]? = some (some (.ref b)) ∧ (b ≠ c ∨ (k = false ∧ ∃ ws, KL K b ws ∧ RpAll S ws xs)) := fun j k xs q => by
  obtain ⟨b, h1, h2⟩ := h j k xs q
  refine ⟨b, h1, h2.imp (fun z e => z (by rw [e]; exact hc)) fun z => z⟩
theorem noLean_set {is : List Nat} {m : Nat} {s : Sl} (h : noLean ρ is = true) (hs : s.on = []) : noLean (ρ.set m s) is = true := by
  refine List.all_eq_true.mpr fun t ht => ?_
  rcases List.mem_or_eq_of_mem_set ht with z | z
  · exact List.all_eq_true.mp h t z
  · rw [z, hs]
    rfl
theorem noLean_tail {is : List Nat} {m : Nat} (h : noLean ρ (m :: is) = true) : noLean ρ is = true := by
  refine List.all_eq_true.mpr fun t ht => List.all_eq_true.mpr fun k hk => ?_
  have h1 := List.all_eq_true.mp (List.all_eq_true.mp h t ht) k hk
  rw [Bool.not_eq_true'] at h1 ⊢
  cases q : is.contains k with
  | false => rfl
  | true =>
    rw [List.contains_iff_mem.mpr (List.mem_cons_of_mem _ (List.contains_iff_mem.mp q))] at h1
    cases h1
theorem parts_ok : ∀ {is : List Nat} {vs : List V} {cs : List CV} {σ : L2.St} {ρ : R}, Rel K B S H σ ρ → RoOld K S H0 σ ρ → Paired (CompR S H0 H) vs cs → (newA vs cs).Nodup → (∀ a ∈ newA vs cs, ¬ OwnAt σ ρ a) → is.Nodup → noLean ρ is = true → (∀ m ∈ is, m < ρ.length) → is.length = cs.length →
    Rel K B S H (setL σ is vs) (putC ρ is cs) ∧ RoOld K S H0 (setL σ is vs) (putC ρ is cs) ∧ Paired (fun (v : V) (m : Nat) => (setL σ is vs)[m]? = some (some v)) vs is ∧ (∀ b, OwnAt (setL σ is vs) (putC ρ is cs) b → OwnAt σ ρ b ∨ b ∈ newA vs cs)
  | [], _, _, σ, ρ, hR, hO, .nil, _, _, _, _, _, _ => ⟨hR, hO, .nil, fun _ h => .inl h⟩
  | [], _, _, _, _, _, _, .cons _ _, _, _, _, _, _, h => by cases h
  | _ :: _, _, _, _, _, _, _, .nil, _, _, _, _, _, h => by cases h
  | m :: ms, _, _, σ, ρ, hR, hO, .cons (a := v) (b := c) (l₁ := vs) (l₂ := cs) r t, nd, no, hm, hl, hlt, hlen => by
    rw [List.nodup_cons] at hm
    have h1 := hR.setn (i := m) (v := some v) fun j s _ q => noLean_at hl q List.mem_cons_self
    have hml : m < ρ.length := hlt m List.mem_cons_self
    have e0 : (ρ.set m .no)[m]? = some .no := List.getElem?_set_self hml
    have e1 : (σ.set m (some v))[m]? = some (some v) := List.getElem?_set_self (by rw [hR.len]; exact hml)
    have ee : ∀ s : Sl, (ρ.set m .no).set m s = ρ.set m s := fun s => List.set_set ..
    have e3 : setL σ (m :: ms) (v :: vs) = setL (σ.set m (some v)) ms vs := rfl
    have e4 : putC ρ (m :: ms) (c :: cs) = putC (ρ.set m c.sl) ms cs := rfl
    rw [e3, e4]
    have fin : ∀ (R2 : Rel K B S H (σ.set m (some v)) (ρ.set m c.sl)) (no2 : ∀ a ∈ newA vs cs, ¬ OwnAt (σ.set m (some v)) (ρ.set m c.sl) a) (nd2 : (newA vs cs).Nodup),
        (∀ b, OwnAt (σ.set m (some v)) (ρ.set m c.sl) b → OwnAt σ ρ b ∨ b ∈ newA (v :: vs) (c :: cs)) → (∀ b ∈ newA vs cs, b ∈ newA (v :: vs) (c :: cs)) →
        Rel K B S H (setL (σ.set m (some v)) ms vs) (putC (ρ.set m c.sl) ms cs) ∧ RoOld K S H0 (setL (σ.set m (some v)) ms vs) (putC (ρ.set m c.sl) ms cs) ∧ Paired (fun (v' : V) (m' : Nat) => (setL (σ.set m (some v)) ms vs)[m']? = some (some v')) (v :: vs) (m :: ms) ∧ (∀ b, OwnAt (setL (σ.set m (some v)) ms vs) (putC (ρ.set m c.sl) ms cs) b → OwnAt σ ρ b ∨ b ∈ newA (v :: vs) (c :: cs)) := fun R2 no2 nd2 ow1 sub => by
      have hon : c.sl.on = [] := by cases c <;> rfl
      have hro : ∀ k xs, c.sl ≠ .ro k xs := fun k xs z => by cases c <;> cases z
      obtain ⟨g1, g2, g3, g4⟩ := parts_ok R2 (hO.set hro) t nd2 no2 hm.2 (noLean_set (noLean_tail hl) hon) (fun k hk => by rw [List.length_set]; exact hlt k (List.mem_cons_of_mem _ hk)) (by simpa using hlen)
      refine ⟨g1, g2, .cons (by rw [setL_out hm.1]; exact e1) g3, fun b hb => ?_⟩
      rcases g4 b hb with z | z
      · exact ow1 b z
      · exact .inr (sub b z)
    cases c with
    | val x =>
      have R2 := h1.tellv e0 e1 r
      rw [ee] at R2
      refine fin R2 (fun a ha z => no a (by rw [newA_val]; exact ha) (own_set rfl z)) (by rw [newA_val] at nd; exact nd) (fun b z => .inl (own_set rfl z)) (fun b hb => by rw [newA_val]; exact hb)
    | new xs =>
      obtain ⟨a, ws, rfl, ha0, haS, haH, hd⟩ := r
      have na : ¬ OwnAt σ ρ a := no a List.mem_cons_self
      have nd : (a :: newA vs cs).Nodup := nd
      rw [List.nodup_cons] at nd
      have R2 := h1.tello (s := .own xs) e0 e1 rfl (fun z => na (own_set rfl z)) haS ⟨_, haH, rfl⟩ ((hO.set (fun _ _ z => by cases z)).at ha0) (fun ys z => by cases z; exact ⟨ws, haH, hd⟩) (fun k is z => by cases z) (fun C fs is d us z => by cases z)
      rw [ee] at R2
      have ow1 : ∀ b, OwnAt (σ.set m (some (.ref a))) (ρ.set m (.own xs)) b → OwnAt σ ρ b ∨ b = a := fun b ⟨k, u, hk, e⟩ => by
        rcases get_set hk.1 with ⟨rfl, q', _⟩ | ⟨n', q'⟩
        · rw [e1] at e
          cases e
          exact .inr rfl
        · rw [List.getElem?_set_ne fun z => n' z.symm] at e
          exact .inl ⟨k, u, ⟨q', hk.2⟩, e⟩
      refine fin R2 (fun b hb z => ?_) nd.2 (fun b z => ?_) (fun b hb => List.mem_cons_of_mem _ hb)
      · rcases ow1 b z with z | z
        · exact no b (List.mem_cons_of_mem _ hb) z
        · exact nd.1 (z ▸ hb)
      · rcases ow1 b z with z | z
        · exact .inl z
        · exact .inr (by rw [z]; exact List.mem_cons_self)
end
/-! ### name = [..], name = (..): made of parts -/
inductive Sq where
  | lst | tup
def Sq.mk : Sq → List V → HO
  | .lst, vs => .lst vs
  | .tup, vs => .tup vs
def Sq.sk : Sq → SK
  | .lst => .lst
  | .tup => .tup
section
variable {X : Cx} {new : Fs} {F : List Nat} {σ : L2.St} {S H : Hp} {ρ : R} {Qn : R → Prop} {Qr : D → R → Prop} {pos : Pos} {es : List Expr}
theorem st_core {k : Sq} {i : Nat} {is : List Nat} {S1 H1 : Hp} {ρ1 : R} {vs : List V} {cs : List CV} {n : Addr} (hR : Rel X.K (bd X) S H σ ρ) (R1 : Rel X.K (bd X) S1 H1 σ ρ1) (E1 : Ext σ S H ρ S1 H1 ρ1) (hd : Paired (CompR S1 H H1) vs cs) (nd : (newA vs cs).Nodup) (hn : H1 n = none)
    (hib : i < bd X) (hil : i < ρ.length) (hv : vok X is = true) (hiF : i ∉ F) (hF : (is.all fun m => !F.contains m) = true) (hlen : is.length = cs.length) (hlt : (is.all fun m => decide (m < ρ1.length)) = true) (hnl : noLean (ρ1.set i .no) is = true) :
    ∃ σ', VirEq X (σ.set i (some (.ref n))) σ' ∧ Rel X.K (bd X) S1 (upd H1 n (k.mk vs)) σ' ((putC (ρ1.set i .no) is cs).set i (.st k.sk is)) ∧ XS F σ S H ρ σ' S1 (upd H1 n (k.mk vs)) ((putC (ρ1.set i .no) is cs).set i (.st k.sk is)) := by
  rw [vok, Bool.and_eq_true] at hv
  obtain ⟨hv, hnd⟩ := hv
  have hnd := of_decide_eq_true hnd
  have hv' : ∀ m ∈ is, bd X ≤ m ∧ invis X m = true := fun m hm => by
    have := List.all_eq_true.mp hv m hm
    rw [Bool.and_eq_true] at this
    exact ⟨of_decide_eq_true this.1, this.2⟩
  have him : i ∉ is := fun z => absurd (hv' i z).1 (by omega)
  have hl1 : i < ρ1.length := by rw [← R1.len, hR.len]; exact hil
  have hn0 : H n = none := E_none E1 hn
  have nn : ∀ {b : Addr}, H1 b ≠ none → b ≠ n := fun {b} h z => h (by rw [z]; exact hn)
  -- the node, then the slot
  have Ra := R1.new0 (o := k.mk vs) hn
  have Rb : Rel X.K (bd X) S1 (upd H1 n (k.mk vs)) (σ.set i (some (.ref n))) (ρ1.set i .no) := Ra.setn fun j s hj q hm => by
    cases s with
    | st kk js =>
      obtain ⟨a, us, o, _, _, _, _, p⟩ := Ra.vir.st j kk js q
      obtain ⟨u, _, hb, _⟩ := paired_mem p i hm
      omega
    | al jj =>
      have e : i = jj := by simpa [Sl.on] using hm
      have := (Ra.vir.al j jj q).1
      omega
    | _ => cases hm
  have hd2 : Paired (CompR S1 H (upd H1 n (k.mk vs))) vs cs := Paired.mapP hd fun v c q => by
    cases c with
    | val x => exact q
    | new xs =>
      obtain ⟨a, ws, h1, h2, h3, h4, h5⟩ := q
      exact ⟨a, ws, h1, h2, h3, by rw [upd_ne (nn (by rw [h4]; simp))]; exact h4, h5⟩
  have hO : RoOld X.K S1 H (σ.set i (some (.ref n))) (ρ1.set i .no) := (RoOld.of hR E1).set fun _ _ z => by cases z
  have no : ∀ a ∈ newA vs cs, ¬ OwnAt (σ.set i (some (.ref n))) (ρ1.set i .no) a := fun a ha z => own_new hR (newA_in hd a ha) (E1.at.mpr (own_set rfl z))
  obtain ⟨g1, g2, g3, g4⟩ := parts_ok Rb hO hd2 nd no hnd hnl (fun m hm => by rw [List.length_set]; exact of_decide_eq_true (List.all_eq_true.mp hlt m hm)) hlen
  have e0 : (putC (ρ1.set i .no) is cs)[i]? = some .no := by
    rw [putC_out him]
    exact List.getElem?_set_self hl1
  have e1 : (setL (σ.set i (some (.ref n))) is vs)[i]? = some (some (.ref n)) := by
    rw [setL_out him]
    exact List.getElem?_set_self (by rw [hR.len]; exact hil)
  have nown : ∀ b, OwnAt (setL (σ.set i (some (.ref n))) is vs) (putC (ρ1.set i .no) is cs) b → OwnAt σ ρ b ∨ (H b = none ∧ H1 b ≠ none) := fun b z => by
    rcases g4 b z with z | z
    · exact .inl (E1.at.mpr (own_set rfl z))
    · refine .inr ⟨newA_in hd b z, ?_⟩
      have go : ∀ {vs : List V} {cs : List CV}, Paired (CompR S1 H H1) vs cs → b ∈ newA vs cs → H1 b ≠ none := by
        intro vs cs p
        induction p with
        | nil => intro h; cases h
        | cons r t ih =>
          rename_i v c _ _
          intro h
          cases c with
          | val x =>
            rw [newA_val] at h
            exact ih h
          | new xs =>
            obtain ⟨a, ws, rfl, h1, h2, h3, h4⟩ := r
            rcases List.mem_cons.mp h with rfl | h
            · rw [h3]; simp
            · exact ih h
      exact go hd z
  have hnn : ¬ OwnAt (setL (σ.set i (some (.ref n))) is vs) (putC (ρ1.set i .no) is cs) n := fun z => by
    rcases nown n z with z | ⟨_, z⟩
    · exact own_new hR hn0 z
    · exact z hn
  have Rc := g1.tello (s := .st k.sk is) e0 e1 rfl hnn (R1.sub.free hn) ⟨_, upd_same, by cases k <;> rfl⟩ (g2.at hn0) (fun xs z => by cases z)
    (fun kk js z => by
      cases z
      refine ⟨vs, _, upd_same, by cases k <;> rfl, ?_⟩
      have go : ∀ {us : List V} {js : List Nat}, (∀ m ∈ js, bd X ≤ m) → Paired (fun (v : V) (m : Nat) => (setL (σ.set i (some (.ref n))) is vs)[m]? = some (some v)) us js → Paired (fun (v : V) (m : Nat) => bd X ≤ m ∧ (setL (σ.set i (some (.ref n))) is vs)[m]? = some (some v)) us js := by
        intro us js hb p
        induction p with
        | nil => exact .nil
        | cons r t ih => exact .cons ⟨hb _ List.mem_cons_self, r⟩ (ih fun m hm => hb m (List.mem_cons_of_mem _ hm))
      exact go (fun m hm => (hv' m hm).1) g3)
    (fun C fs js d us z => by cases k <;> cases z)
  refine ⟨_, setL_vir (fun m hm => (hv' m hm).2) .refl, Rc, ?_⟩
  have hFm : ∀ j ∈ F, j ∉ is := fun j hj z => by
    have := List.all_eq_true.mp hF j z
    rw [List.contains_iff_mem.mpr hj] at this
    cases this
  refine ⟨E1.same, fun b h => ?_, fun b h h' _ => E1.stay b h h', fun b o h h' q => ?_, fun b z => ?_, fun j hj => ?_, fun j hj h => ?_⟩
  · rw [upd_ne (nn (E1.there b h))]
    exact E1.there b h
  · rw [upd_ne (nn (E1.there b (by rw [h]; simp)))]
    exact E1.keep b o h h' q
  · obtain ⟨m, u, hm, e⟩ := z
    rcases get_set hm.1 with ⟨rfl, q', _⟩ | ⟨n', q'⟩
    · rw [e1] at e
      cases e
      exact .inr hn0
    · rcases nown b ⟨m, u, ⟨q', hm.2⟩, e⟩ with z | z
      · exact .inl z
      · exact .inr z.1
  · rw [setL_out (hFm j hj), List.getElem?_set_ne fun z => hiF (by rw [z]; exact hj)]
  · have nj : i ≠ j := fun z => hiF (by rw [z]; exact hj)
    rw [List.getElem?_set_ne nj, putC_out (hFm j hj), List.getElem?_set_ne nj]
    exact (E1.kind j).mp h
def stOk (ρ : R) (i : Nat) (is : List Nat) : Bool := noLean (ρ.set i .no) is && (is.all fun m => decide (m < ρ.length)) && decide (i < ρ.length)
def tStD (k : Sq) (i : Nat) (is : List Nat) (t : VM) : VS := fun ρ Qn _ => t ρ fun cs ρ1 => is.length = cs.length ∧ cs.length ≤ sizeLine ∧ stOk ρ1 i is = true ∧ Qn ((putC (ρ1.set i .no) is cs).set i (.st k.sk is))
theorem comp_len {S' H0 H' : Hp} : ∀ {vs : List V} {cs : List CV}, Paired (CompR S' H0 H') vs cs → vs.length = cs.length
  | _, _, .nil => rfl
  | _, _, .cons _ t => congrArg (· + 1) (comp_len t)
theorem js_stL {i : Nat} {is : List Nat} {x : Str} {pos' lp : Pos} {t : VM} (nd : X.N.Nodup) (hn : Sn X i x) (hi : i ∉ F) (hv : vok X is = true) (hF : (is.all fun m => !F.contains m) = true) (h : JM X es t) (hs : swapsWith (.List es lp) (some (.Name x pos')) pos.line X.env = pure false) :
    JS X new F (.Assign [.Name x pos'] (.List es lp) pos) (tStD .lst i is t) := by
  intro σ S H ρ Qn Qr hR ht
  refine WS.vir (WS.of (ps_set nd hn.n hn.l (pe_lst paW) hs hn.f) ((h σ S H ρ _ hR ht).mono fun vs H1 q => ?_))
  obtain ⟨S1, ρ1, cs, R1, E1, d1, nd1, h1, h2, h3, q⟩ := q
  rw [stOk, Bool.and_eq_true, Bool.and_eq_true] at h3
  refine ⟨by rw [comp_len d1]; exact h2, fun n hn' => ?_⟩
  have hil : i < ρ.length := by rw [← hR.len, R1.len]; exact of_decide_eq_true h3.2
  obtain ⟨σ', v', R', X'⟩ := st_core (k := .lst) hR R1 E1 d1 nd1 hn' hn.b hil hv hi hF h1 h3.1.2 h3.1.1
  exact ⟨σ', v', S1, _, R', X', q⟩
theorem js_stT {i : Nat} {is : List Nat} {x : Str} {pos' lp : Pos} {x1 : Nat} {t : VM} (nd : X.N.Nodup) (hn : Sn X i x) (hi : i ∉ F) (hv : vok X is = true) (hF : (is.all fun m => !F.contains m) = true) (h : JM X es t) (hs : swapsWith (.Tuple es x1 lp) (some (.Name x pos')) pos.line X.env = pure false) :
    JS X new F (.Assign [.Name x pos'] (.Tuple es x1 lp) pos) (tStD .tup i is t) := by
  intro σ S H ρ Qn Qr hR ht
  refine WS.vir (WS.of (ps_set nd hn.n hn.l (pe_tup paW) hs hn.f) ((h σ S H ρ _ hR ht).mono fun vs H1 q => ?_))
  obtain ⟨S1, ρ1, cs, R1, E1, d1, nd1, h1, h2, h3, q⟩ := q
  rw [stOk, Bool.and_eq_true, Bool.and_eq_true] at h3
  refine ⟨by rw [comp_len d1]; exact h2, fun n hn' => ?_⟩
  have hil : i < ρ.length := by rw [← hR.len, R1.len]; exact of_decide_eq_true h3.2
  obtain ⟨σ', v', R', X'⟩ := st_core (k := .tup) hR R1 E1 d1 nd1 hn' hn.b hil hv hi hF h1 h3.1.2 h3.1.1
  exact ⟨σ', v', S1, _, R', X', q⟩
end
end WA

/-! WA19: ways to parts: x[0], x[0].append(e), for y in x, x[1] = x[0], comparisons. -/
namespace WA
open PySem PySem.Spec PyProof.Rows L2
abbrev PSl := R → Option Nat
def follow (ρ : R) (i : Nat) : Option Nat := match ρ[i]? with
  | none => none
  | some .no => none
  | some (.al j) => some j
  | some _ => some i
section
variable {K : PySem.W.Frag} {B : Nat} {S H : Hp} {σ : L2.St} {ρ : R}
theorem Rel.held {i : Nat} {s : Sl} (h : Rel K B S H σ ρ) (hs : ρ[i]? = some s) (n : s ≠ .no) : ∃ w, σ[i]? = some (some w) := by
  cases s with
  | no => exact absurd rfl n
  | v x =>
    obtain ⟨w, h1, _⟩ := h.val i x hs
    exact ⟨w, h1⟩
  | own xs =>
    obtain ⟨a, _, h1, _⟩ := h.own i xs hs
    exact ⟨_, h1⟩
  | ro k xs =>
    obtain ⟨a, _, h1, _⟩ := h.ro i k xs hs
    exact ⟨_, h1⟩
  | st k is =>
    obtain ⟨a, _, _, h1, _⟩ := h.vir.st i k is hs
    exact ⟨_, h1⟩
  | al j =>
    obtain ⟨_, w, h1, _⟩ := h.vir.al i j hs
    exact ⟨w, h1⟩
theorem Rel.follow {i m : Nat} (h : Rel K B S H σ ρ) (hf : follow ρ i = some m) : ∃ w, σ[i]? = some (some w) ∧ σ[m]? = some (some w) := by
  unfold WA.follow at hf
  cases e : ρ[i]? with
  | none => rw [e] at hf; cases hf
  | some s =>
    rw [e] at hf
    cases s with
    | no => cases hf
    | al j =>
      cases hf
      obtain ⟨_, w, h1, h2⟩ := h.vir.al i _ e
      exact ⟨w, h1, h2⟩
    | v x =>
      cases hf
      obtain ⟨w, h1⟩ := h.held e (fun z => by cases z)
      exact ⟨w, h1, h1⟩
    | own x =>
      cases hf
      obtain ⟨w, h1⟩ := h.held e (fun z => by cases z)
      exact ⟨w, h1, h1⟩
    | ro k x =>
      cases hf
      obtain ⟨w, h1⟩ := h.held e (fun z => by cases z)
      exact ⟨w, h1, h1⟩
    | st k x =>
      cases hf
      obtain ⟨w, h1⟩ := h.held e (fun z => by cases z)
      exact ⟨w, h1, h1⟩
end
def JP (X : Cx) (e : Expr) (tp : PSl) : Prop := ∀ σ S H ρ m, Rel X.K (bd X) S H σ ρ → tp ρ = some m → W X e σ H fun v H' => H' = H ∧ σ[m]? = some (some v)
def pNm (i : Nat) : PSl := fun ρ => follow ρ i
def pSub (tp : PSl) (c : Nat) : PSl := fun ρ => match tp ρ with
  | some i => match ρ[i]? with
    | some (.st .lst is) => match is[c]? with
      | some m => follow ρ m
      | none => none
    | some (.st .tup is) => match is[c]? with
      | some m => follow ρ m
      | none => none
    | _ => none
  | none => none
theorem paired_at {α β : Type} {P : α → β → Prop} : ∀ {xs : List α} {ys : List β} {c : Nat} {y : β}, Paired P xs ys → ys[c]? = some y → ∃ x, xs[c]? = some x ∧ P x y
  | _, _, _, _, .nil, h => by simp at h
  | _, _, 0, _, .cons r _, h => by
    simp at h
    subst h
    exact ⟨_, rfl, r⟩
  | _, _, c + 1, _, .cons _ t, h => by
    obtain ⟨x, h1, h2⟩ := paired_at (c := c) t (by simpa using h)
    exact ⟨x, by simpa using h1, h2⟩
section
variable {X : Cx} {pos p : Pos} {e a : Expr} {ta : VT} {tp : PSl}
theorem jp_nm {i : Nat} {x : Str} (hn : Nm X i x) : JP X (.Name x p) (pNm i) := by
  intro σ S H ρ m hR ht
  obtain ⟨w, h1, h2⟩ := hR.follow ht
  exact W.of hn.pe ⟨w, h1, rfl, h2⟩
theorem jp_sub {c j : Nat} {pc : Pos} (h : JP X e tp) : JP X (.Subscript e (.Constant (.int (c : Nat)) j pc) pos) (pSub tp c) := by
  intro σ S H ρ m hR ht
  refine W.of (pe_ix ix_seq peW pe_int (fun _ _ => rfl)) ?_
  unfold pSub at ht
  split at ht
  · rename_i i ei
    refine (h σ S H ρ i hR ei).mono fun v H1 q => ?_
    obtain ⟨rfl, hv⟩ := q
    split at ht
    · rename_i is es
      split at ht
      · rename_i k ek
        obtain ⟨a', vs, o, e1, e2, e3, e4, e5⟩ := hR.vir.st i .lst is es
        rw [hv] at e1
        cases e1
        have e4 : o = .lst vs := e4
        subst e4
        obtain ⟨y, h1, _, h2⟩ := paired_at e5 ek
        obtain ⟨w, g1, g2⟩ := hR.follow ht
        rw [h2] at g1
        cases g1
        exact .inl ⟨a', vs, (c : Nat), y, rfl, rfl, SqL.of e3, atI_nat h1, rfl, g2⟩
      · cases ht
    · rename_i is es
      split at ht
      · rename_i k ek
        obtain ⟨a', vs, o, e1, e2, e3, e4, e5⟩ := hR.vir.st i .tup is es
        rw [hv] at e1
        cases e1
        have e4 : o = .tup vs := e4
        subst e4
        obtain ⟨y, h1, _, h2⟩ := paired_at e5 ek
        obtain ⟨w, g1, g2⟩ := hR.follow ht
        rw [h2] at g1
        cases g1
        exact .inr (.inl ⟨a', vs, (c : Nat), y, rfl, rfl, .of e3, atI_nat h1, rfl, g2⟩)
      · cases ht
    · cases ht
  · cases ht
/-! ### as operands -/
def tSl (m : Nat) : VT := fun ρ Q => match ρ[m]? with
  | some (.v x) => Q (.val x) ρ
  | some (.own _) => Q (.slot m) ρ
  | some (.ro _ _) => Q (.slot m) ρ
  | _ => False
def tPath (tp : PSl) : VT := fun ρ Q => match tp ρ with
  | some m => tSl m ρ Q
  | none => False
theorem jt_path (h : JP X e tp) : JT X e (tPath tp) := by
  intro σ S H ρ Q hR ht
  unfold tPath at ht
  split at ht
  · rename_i m em
    refine (h σ S H ρ m hR em).mono fun v H1 q => ?_
    obtain ⟨rfl, hv⟩ := q
    unfold tSl at ht
    split at ht
    · rename_i x ex
      obtain ⟨w, h1, h2⟩ := hR.val m x ex
      rw [hv] at h1
      cases h1
      exact ⟨S, ρ, .val x, hR, .refl, h2, ht⟩
    · exact ⟨S, ρ, .slot m, hR, .refl, hv, ht⟩
    · exact ⟨S, ρ, .slot m, hR, .refl, hv, ht⟩
    · exact ht.elim
  · exact ht.elim
/-! ### changed -/
def tAt (tp : PSl) (f : Nat → VE) : VE := fun ρ Q => match tp ρ with
  | some m => f m ρ Q
  | none => False
theorem je_appP {apos : Pos} (h : JP X e tp) (ha : JT X a ta) (hs : notStar a = true) (hba : attributeBase e "append" X.env (eval e X.env) = eval e X.env) (hl : (apos.endLine == pos.line) = true) : JE X (.Call (.Attribute e "append" apos) [a] [] pos) (tAt tp fun i => tApp i ta) := by
  intro σ S H ρ Q hR ht
  unfold tAt at ht
  split at ht
  · rename_i i ei
    obtain ⟨⟨zs, hz⟩, ht⟩ := ht
    obtain ⟨l, ws, l1, l2, l3, l4⟩ := hR.own i zs hz
    refine W.of (pe_bm PySem.F.plainAttrs_list PySem.F.slot_list_append PySem.F.type_list_append mt_append peW (pa_cons peW pa_nil (star_cons hs)) hba (few1 hs) hl (star_cons hs) rfl) ((h σ S H ρ i hR ei).mono fun v H1 q => ?_)
    obtain ⟨rfl, hv⟩ := q
    rw [l1] at hv
    cases hv
    refine ⟨.inl ⟨rfl, _, SqL.of l3⟩, (ha σ S H1 ρ _ hR ht).mono fun v H1 q => ?_⟩
    obtain ⟨S1, ρ1, u, R1, E1, d1, q1⟩ := q
    split at q1
    · rename_i d xs e
      obtain ⟨b, vs, b1, b2, b3, b4⟩ := R1.own i xs e
      rw [l1] at b1
      cases b1
      refine ⟨l, vs, v, rfl, rfl, b3, by rw [rps_len b4]; exact q1.1, S1, _, _, R1.put e l1 (rps_app b4 (rps_one d1)), E1.trans (.put R1 e l1), .non, q1.2⟩
    · exact q1.elim
  · exact ht.elim
theorem je_popP {apos : Pos} (h : JP X e tp) (hba : attributeBase e "pop" X.env (eval e X.env) = eval e X.env) (hl : (apos.endLine == pos.line) = true) : JE X (.Call (.Attribute e "pop" apos) [] [] pos) (tAt tp tPop) := by
  intro σ S H ρ Q hR ht
  unfold tAt at ht
  split at ht
  · rename_i i ei
    unfold tPop at ht
    split at ht
    · rename_i xs e
      obtain ⟨l, vs, l1, l2, l3, l4⟩ := hR.own i xs e
      obtain ⟨d, hd, ht⟩ := ht
      obtain ⟨v, hv, hr⟩ := rps_get l4 hd
      refine W.of (pe_bm0 PySem.F.plainAttrs_list PySem.F.slot_list_pop PySem.F.type_list_pop mt_pop peW hba hl) ((h σ S H ρ i hR ei).mono fun w H1 q => ?_)
      obtain ⟨rfl, hw⟩ := q
      rw [l1] at hw
      cases hw
      exact ⟨.inl ⟨rfl, _, SqL.of l3⟩, l, vs, v, rfl, rfl, l3, by rw [rps_len l4]; exact hv, S, _, d, hR.put e l1 (rps_dropLast l4), .put hR e l1, hr, ht⟩
    · exact ht.elim
  · exact ht.elim
theorem je_clrP {apos : Pos} (h : JP X e tp) (hba : attributeBase e "clear" X.env (eval e X.env) = eval e X.env) (hl : (apos.endLine == pos.line) = true) : JE X (.Call (.Attribute e "clear" apos) [] [] pos) (tAt tp tClr) := by
  intro σ S H ρ Q hR ht
  unfold tAt at ht
  split at ht
  · rename_i i ei
    unfold tClr at ht
    split at ht
    · rename_i xs e
      obtain ⟨l, vs, l1, l2, l3, l4⟩ := hR.own i xs e
      refine W.of (pe_bm0 PySem.F.plainAttrs_list PySem.F.slot_list_clear PySem.F.type_list_clear mt_clear peW hba hl) ((h σ S H ρ i hR ei).mono fun w H1 q => ?_)
      obtain ⟨rfl, hw⟩ := q
      rw [l1] at hw
      cases hw
      exact ⟨.inl ⟨rfl, _, SqL.of l3⟩, l, vs, rfl, rfl, l3, S, _, .none, hR.put e l1 .nil, .put hR e l1, .non, ht⟩
    · exact ht.elim
  · exact ht.elim
end
/-! ### what stands in a slot, parts and all -/
mutual
def contF : Nat → R → Nat → Option D
  | 0, _, _ => none
  | f + 1, ρ, m => match ρ[m]? with
    | some (.v x) => some x
    | some (.own xs) => some (.list xs)
    | some (.ro _ xs) => some (.list xs)
    | some (.st .lst is) => (contL f ρ is).map .list
    | some (.st .tup is) => (contL f ρ is).map .tuple
    | some (.al j) => contF f ρ j
    | _ => none
def contL : Nat → R → List Nat → Option (List D)
  | _, _, [] => some []
  | f, ρ, m :: ms => match contF f ρ m, contL f ρ ms with
    | some x, some xs => some (x :: xs)
    | _, _ => none
end
section
variable {K : PySem.W.Frag} {B : Nat} {S H : Hp} {σ : L2.St} {ρ : R}
theorem contL_dp (ih : ∀ {m : Nat} {x : D} {v : V}, contF f ρ m = some x → σ[m]? = some (some v) → Dp K H v x) : ∀ {is : List Nat} {vs : List V} {xs : List D}, contL f ρ is = some xs → Paired (fun (v : V) (m : Nat) => B ≤ m ∧ σ[m]? = some (some v)) vs is → DpAll K H vs xs
  | [], _, _, h, .nil => by
    rw [contL] at h
    cases h
    exact .nil
  | m :: ms, _, xs, h, .cons r t => by
    rw [contL] at h
    split at h
    · rename_i x ys e1 e2
      cases h
      exact .cons (ih e1 r.2) (contL_dp ih e2 t)
    · cases h
theorem cont_dp (hR : Rel K B S H σ ρ) : ∀ {f : Nat} {m : Nat} {x : D} {v : V}, contF f ρ m = some x → σ[m]? = some (some v) → Dp K H v x
  | 0, _, _, _, h, _ => by
    rw [contF] at h
    cases h
  | f + 1, m, x, v, h, hv => by
    rw [contF] at h
    split at h
    · rename_i y e
      cases h
      obtain ⟨w, h1, h2⟩ := hR.val m x e
      rw [hv] at h1
      cases h1
      exact (h2.mono hR.sub).dp
    · rename_i ys e
      cases h
      obtain ⟨a, vs, h1, h2, h3, h4⟩ := hR.own m ys e
      rw [hv] at h1
      cases h1
      exact .lst (.of h3) (h4.mono hR.sub).dp
    · rename_i k ys e
      cases h
      obtain ⟨a, vs, h1, h2, h3⟩ := hR.ro m k ys e
      rw [hv] at h1
      cases h1
      exact .lst h2.seq (h3.mono hR.sub).dp
    · rename_i is e
      cases q : contL f ρ is with
      | none => rw [q] at h; cases h
      | some xs =>
        rw [q] at h
        cases h
        obtain ⟨a, vs, o, e1, e2, e3, e4, e5⟩ := hR.vir.st m .lst is e
        rw [hv] at e1
        cases e1
        have e4 : o = .lst vs := e4
        subst e4
        exact .lst (.of e3) (contL_dp (fun h1 h2 => cont_dp hR h1 h2) q e5)
    · rename_i is e
      cases q : contL f ρ is with
      | none => rw [q] at h; cases h
      | some xs =>
        rw [q] at h
        cases h
        obtain ⟨a, vs, o, e1, e2, e3, e4, e5⟩ := hR.vir.st m .tup is e
        rw [hv] at e1
        cases e1
        have e4 : o = .tup vs := e4
        subst e4
        exact .tup (.of e3) (contL_dp (fun h1 h2 => cont_dp hR h1 h2) q e5)
    · rename_i j e
      obtain ⟨_, w, h1, h2⟩ := hR.vir.al m j e
      rw [hv] at h1
      cases h1
      exact cont_dp hR h h2
    · cases h
end
/-! ### x == y, x != y, where x is made of parts -/
section
variable {X : Cx} {pos p : Pos} {a b : Expr} {tb : VT} {tp : PSl}
def vEqP (op : COp) (x y : Option D) (Q : Bool → Prop) : Prop := match op, x, y with
  | .eq, some x, some y => (SeqAt.shaped x = true ∧ SeqAt.shaped y = true) ∧ Q (PyData.eqv x y)
  | .ne, some x, some y => (SeqAt.shaped x = true ∧ SeqAt.shaped y = true) ∧ Q (!PyData.eqv x y)
  | _, _, _ => False
def tCmpP (op : COp) (tp : PSl) (tb : VT) : VE := fun ρ Q => match tp ρ with
  | some m => tb ρ fun w ρ1 => vEqP op (contF 9 ρ1 m) (deref ρ1 w) fun r => Q (.bool r) ρ1
  | none => False
theorem cmpP_core {op : COp} {σ : L2.St} {S H : Hp} {ρ : R} {v w : V} {z : AV} {m : Nat} {Q : VK} {P : Bool → Prop} (hu : X.A.units + 64 < cLine) (R : Rel X.K (bd X) S H σ ρ) (d1 : σ[m]? = some (some v)) (d2 : ARep X.K S σ w z) (h : vEqP op (contF 9 ρ m) (deref ρ z) P) (hq : ∀ k, P k → Q (.bl k) H) : WO X (compareOp op.op) v w H Q := by
  unfold vEqP at h
  split at h
  · rename_i x y e1 e2
    exact WO.of (op_eqD hu) ⟨x, y, cont_dp R e1 d1, d2.dp R e2, h.1.1, h.1.2, hq _ h.2⟩
  · rename_i x y e1 e2
    exact WO.of (op_neD hu) ⟨x, y, cont_dp R e1 d1, d2.dp R e2, h.1.1, h.1.2, hq _ h.2⟩
  · exact h.elim
theorem je_cmpP {op : COp} (hu : X.A.units + 64 < cLine) (ha : JP X a tp) (hb : JT X b tb) (hm : behindInMarks op.op b = false) : JE X (.Compare a [op.op] [b] pos) (tCmpP op tp tb) := by
  intro σ S H ρ Q hR ht
  unfold tCmpP at ht
  split at ht
  · rename_i m em
    refine W.of (pe_cmpR opW peW peW hm) ((ha σ S H ρ m hR em).mono fun v H1 q => ?_)
    obtain ⟨rfl, hv⟩ := q
    refine (hb σ S H1 ρ _ hR ht).mono fun w H2 q => ?_
    obtain ⟨S2, ρ2, z, R2, E2, d2, q2⟩ := q
    exact cmpP_core hu R2 hv d2 q2 fun k hk => ⟨S2, ρ2, _, R2, E2, .bl k, hk⟩
  · exact ht.elim
theorem jc_cmpP {op : COp} (hu : X.A.units + 64 < cLine) (ha : JP X a tp) (hb : JT X b tb) (hm : behindInMarks op.op b = false) : JC X (.Compare a [op.op] [b] pos) (cOf (vT (tCmpP op tp tb))) := by
  intro σ S H ρ Q hR ht
  have ht : tCmpP op tp tb ρ fun x ρ' => match x with
    | .bool b => Q b ρ'
    | _ => False := ht
  unfold tCmpP at ht
  split at ht
  · rename_i m em
    refine WT.of (pt_cmpR opW peW peW hm) ((ha σ S H ρ m hR em).mono fun v H1 q => ?_)
    obtain ⟨rfl, hv⟩ := q
    refine (hb σ S H1 ρ _ hR ht).mono fun w H2 q => ?_
    obtain ⟨S2, ρ2, z, R2, E2, d2, q2⟩ := q
    exact cmpP_core hu R2 hv d2 q2 fun k hk => ⟨k, rfl, S2, ρ2, R2, E2, hk⟩
  · exact ht.elim
/-! str of what is made of parts -/
def tStrP (tp : PSl) : VE := fun ρ Q => match tp ρ with
  | some m => match contF 9 ρ m with
    | some x => isSeqD x = true ∧ strOk x ∧ Q (.str x.shown) ρ
    | none => False
  | none => False
theorem je_strP (hgd : X.A.guards = some []) (hu : X.A.units + 64 < cLine) (hg : Gl X "str") (hm : X.mg "str" = none) (ha : JP X a tp) (hs : notStar a = true) : JE X (.Call (.Name "str" p) [a] [] pos) (tStrP tp) := by
  intro σ S H ρ Q hR ht
  unfold tStrP at ht
  split at ht
  · rename_i m em
    split at ht
    · rename_i x ex
      refine W.of (pe_callTy (T := "str") (cr_strD hgd hu) hg hm (by decide +kernel) (pa_cons peW pa_nil (star_cons hs)) (by decide) (by decide) (star_cons hs) rfl) ((ha σ S H ρ m hR em).mono fun v H1 q => ?_)
      obtain ⟨rfl, hv⟩ := q
      obtain ⟨h1, h2, q1⟩ := ht
      have dp := cont_dp hR ex hv
      refine ⟨v, x, rfl, dp, ?_, h2, S, ρ, _, hR, .refl, .str _, q1⟩
      cases dp <;> first | exact ⟨_, rfl⟩ | cases h1
    · exact ht.elim
  · exact ht.elim
end
end WA

/-! WA20: for y in x, x[1] = x[0], x[1][k] = e, where x is made of parts. -/
namespace WA
open PySem PySem.Spec PyProof.Rows L2
section
variable {K : PySem.W.Frag} {B : Nat} {S H : Hp} {σ : L2.St} {ρ : R}
theorem Rel.free_lt {i : Nat} (h : Rel K B S H σ ρ) (hi : i < B) : freeAt ρ i i := fun j s _ q hm => by
  cases s with
  | st kk js =>
    obtain ⟨a, us, o, _, _, _, _, p⟩ := h.vir.st j kk js q
    obtain ⟨u, _, hb, _⟩ := paired_mem p i hm
    omega
  | al jj =>
    have e : i = jj := by simpa [Sl.on] using hm
    have := (h.vir.al j jj q).1
    omega
  | _ => cases hm
theorem paired_len {α β : Type} {P : α → β → Prop} : ∀ {xs : List α} {ys : List β}, Paired P xs ys → xs.length = ys.length
  | _, _, .nil => rfl
  | _, _, .cons _ t => congrArg (· + 1) (paired_len t)
theorem Rel.follow_le {m k : Nat} (h : Rel K B S H σ ρ) (hf : WA.follow ρ m = some k) (hm : B ≤ m) : B ≤ k := by
  unfold WA.follow at hf
  cases e : ρ[m]? with
  | none => rw [e] at hf; cases hf
  | some s =>
    rw [e] at hf
    cases s with
    | no => cases hf
    | al j =>
      cases hf
      exact (h.vir.al m _ e).1
    | _ => cases hf; exact hm
end
/-! ### for -/
def stLoop (g t : Nat) (all : List Nat) (body : VS) : List Nat → R → (R → Prop) → (D → R → Prop) → Prop
  | [], ρ, Qn, _ => ρ[g]? = some (.st .lst all) ∧ Qn ρ
  | m :: ms, ρ, Qn, Qr => ρ[g]? = some (.st .lst all) ∧ decide (t < ρ.length) = true ∧ ∃ k, follow ρ m = some k ∧ body (ρ.set t (.al k)) (fun ρ2 => stLoop g t all body ms ρ2 Qn Qr) Qr
def tForSt (F' : List Nat) (tp : PSl) (t : Nat) (body : VS) : VS := fun ρ Qn Qr => match tp ρ with
  | some g => match ρ[g]? with
    | some (.st .lst is) => (F'.contains g && !F'.contains t) = true ∧ stLoop g t is body is ρ Qn Qr
    | _ => False
  | none => False
section
variable {X : Cx} {new : Fs} {F : List Nat} {pos : Pos} {e : Expr} {tp : PSl}
theorem js_forSt {F' : List Nat} {t : Nat} {tgE iter : Expr} {body : List Stmt} {tb : VS} (hB : decide (t < bd X) = true) (hp : PassesOwn (model X.prog X.w) X.A X.env X.xe) (hc : X.calm = true) (hi : JP X iter tp) (hg : PG X tgE (gT X.K (.one t))) (hb : JSs X new F' body tb) (hF : ∀ i ∈ F, i ∈ F')
    (hs : ∀ x, foldedSetIterable iter X.env x = pure x) : JS X new F (.For tgE iter body [] pos) (tForSt F' tp t tb) := by
  intro σ S H ρ Qn Qr hR ht
  have hB := of_decide_eq_true hB
  unfold tForSt at ht
  split at ht
  · rename_i g eg
    split at ht
    · rename_i is es
      obtain ⟨hgt, hl⟩ := ht
      rw [Bool.and_eq_true] at hgt
      have hgF : g ∈ F' := List.contains_iff_mem.mp hgt.1
      have htF : t ∉ F' := fun z => by
        have := hgt.2
        rw [List.contains_iff_mem.mpr z] at this
        cases this
      refine WS.of (ps_for hp hc piW hg pssW hs) (WIt.of (pi_list peW) ((hi σ S H ρ g hR eg).mono fun v H1 q => ?_))
      obtain ⟨rfl, hv⟩ := q
      obtain ⟨a, vs, o, e1, e2, e3, e4, e5⟩ := hR.vir.st g .lst is es
      rw [hv] at e1
      cases e1
      have e4 : o = .lst vs := e4
      subst e4
      have now : ∀ {σc : L2.St} {S' Hc : Hp} {ρ' : R}, Rel X.K (bd X) S' Hc σc ρ' → σc[g]? = σ[g]? → ρ'[g]? = some (.st .lst is) → ∃ us, Hc a = some (.lst us) ∧ Paired (fun (v : V) (m : Nat) => bd X ≤ m ∧ σc[m]? = some (some v)) us is := fun {σc S' Hc ρ'} R' hf q => by
        obtain ⟨a', us, o', f1, f2, f3, f4, f5⟩ := R'.vir.st g .lst is q
        rw [hf, hv] at f1
        cases f1
        have f4 : o' = .lst us := f4
        subst f4
        exact ⟨us, f3, f5⟩
      refine ⟨a, rfl, ⟨vs, SqL.of e3⟩, fun i m σc Hc => m = is.length - i ∧ i ≤ is.length ∧ ∃ S' ρ', Rel X.K (bd X) S' Hc σc ρ' ∧ XS F' σ S H1 ρ σc S' Hc ρ' ∧ stLoop g t is tb (is.drop i) ρ' Qn Qr,
        ⟨is.length, by simp, Nat.zero_le _, S, ρ, hR, .refl, hl⟩, ?_⟩
      rintro i m σc Hc ⟨rfl, hle, S', ρ', R', E', hl⟩
      by_cases hlt : i < is.length
      · rw [List.drop_eq_getElem_cons hlt] at hl
        obtain ⟨hst, htl, k, hk, hl⟩ := hl
        obtain ⟨us, hus, hps⟩ := now R' (E'.fix g hgF) hst
        obtain ⟨y, hy, hyB, hys⟩ := paired_at hps (List.getElem?_eq_getElem hlt)
        refine .inr ⟨⟨us, y, SqL.of hus, hy⟩, fun σn Hn => ∃ S' ρ', Rel X.K (bd X) S' Hn σn ρ' ∧ XS F' σ S H1 ρ σn S' Hn ρ' ∧ stLoop g t is tb (is.drop (i + 1)) ρ' Qn Qr, fun σn Hn hn => ⟨is.length - (i + 1), by omega, rfl, hlt, hn⟩, fun x H' yy => ?_⟩
        obtain ⟨rfl, yy⟩ := yy
        have ex : x = y := Option.some.inj ((yy us (SqL.of hus)).symm.trans hy)
        subst ex
        show (fun σ2 H2 => WSs X body _ σ2 H2) (σc.set t (some x)) H'
        obtain ⟨w, f1, f2⟩ := R'.follow hk
        rw [hys] at f1
        cases f1
        have hkB : bd X ≤ k := R'.follow_le hk hyB
        have htl := of_decide_eq_true htl
        have Ra := R'.setn (i := t) (v := some x) (R'.free_lt hB)
        have Rb := Ra.tella (i := t) (j := k) (v := x) (List.getElem?_set_self htl) (List.getElem?_set_self (by rw [R'.len]; exact htl)) hkB (by rw [List.getElem?_set_ne (by omega)]; exact f2)
        rw [List.set_set] at Rb
        have Ex : XS F' σc S' H' ρ' (σc.set t (some x)) S' H' (ρ'.set t (.al k)) := xs_set htF rfl
        refine (hb (σc.set t (some x)) S' H' _ _ Qr Rb hl).mono (fun σ3 H3 q => ?_) (fun v H3 q => ?_) (fun _ _ q => q.elim) (fun _ _ q => q.elim)
        · obtain ⟨S3, ρ3, R3, E3, q⟩ := q
          exact ⟨S3, ρ3, R3, (E'.trans Ex).trans E3, q⟩
        · exact endsS_weak (Qn := Qn) hF (ends_rt (Qn := Qn) (E'.trans Ex) q)
      · have e : i = is.length := by omega
        subst e
        rw [List.drop_length] at hl
        obtain ⟨hst, hl⟩ := hl
        obtain ⟨us, hus, hps⟩ := now R' (E'.fix g hgF) hst
        exact .inl ⟨⟨us, SqL.of hus, by rw [paired_len hps]; exact Nat.le_refl _⟩, S', ρ', R', E'.weak hF, hl⟩
    · exact ht.elim
  · exact ht.elim
end
theorem ixN_at' {n c : Nat} (h : c < n) : ixN n ((c : Nat) : Int) = some c := by
  unfold ixN
  rw [if_pos (by omega), if_pos (by omega), Int.toNat_natCast]
/-! ### path[k] = e -/
section
variable {X : Cx} {new : Fs} {F : List Nat} {pos : Pos} {e pe : Expr} {tp : PSl}
def tSetIxP (tp : PSl) (tk tv : VT) : VS := fun ρ Qn _ => tv ρ fun u ρ1 => match tp ρ1 with
  | some i => isOwn ρ1 i ∧ tk ρ1 fun w ρ2 => (match u, deref ρ2 w, ρ2[i]? with
    | .val d, some (.int k), some (.own xs) => ∃ j, ixN xs.length k = some j ∧ Qn (ρ2.set i (.own (xs.set j d)))
    | _, _, _ => False)
  | none => False
theorem js_setIxP {pos' : Pos} {k : Expr} {tk tv : VT} (hp : JP X pe tp) (hk : JT X k tk) (hv : JT X e tv) (hs : swapsWithSole [.Subscript pe k pos'] e pos.line X.env = pure false) (hw : swappedStores [.Subscript pe k pos'] e X.env = pure none)
    (h1 : (assignEach [.Subscript pe k pos'] X.env).map (·.2) = [assign (.Subscript pe k pos') X.env])
    (ha : ∀ v, assign (.Subscript pe k pos') X.env v = (do
      let ov ← holding [v] (eval pe X.env)
      let iv ← holding [v, ov] (eval k X.env)
      standAt pos'
      holding [v, ov, iv] (setItem ov iv v)
      release [v, ov, iv] [])) : JS X new F (.Assign [.Subscript pe k pos'] e pos) (tSetIxP tp tk tv) := by
  intro σ S H ρ Qn Qr hR ht
  refine WS.of (ps_asg peW (pg_sub peW peW set_list ha) hs hw h1) ((hv σ S H ρ _ hR ht).mono fun v H1 q => ?_)
  obtain ⟨S1, ρ1, u, R1, E1, d1, q1⟩ := q
  split at q1
  · rename_i i ei
    obtain ⟨⟨zs, hz⟩, q1⟩ := q1
    refine (hp σ S1 H1 ρ1 i R1 ei).mono fun o H2 q => ?_
    obtain ⟨rfl, ho⟩ := q
    refine (hk σ S1 H2 ρ1 _ R1 q1).mono fun y H3 q => ?_
    obtain ⟨S2, ρ2, w, R2, E2, d2, q2⟩ := q
    split at q2
    · rename_i _ _ _ d kk xs ek ex
      obtain ⟨c, vs, c1, c2, c3, c4⟩ := R2.own i xs ex
      obtain ⟨j, ej, q2⟩ := q2
      rw [ho] at c1
      cases c1
      have d1 : Rp S1 v d := d1
      exact ⟨c, vs, kk, j, rfl, d2.int ek, c3, by rw [rps_len c4]; exact ej, S2, _, R2.put ex ho (rps_set j c4 (d1.mono E2.same)), ((E1.trans E2).trans (Ext.put R2 ex ho)).xs, q2⟩
    · exact q2.elim
  · exact q1.elim
end
/-! ### x[c] = another part -/
section
variable {K : PySem.W.Frag} {B : Nat} {S H : Hp} {σ : L2.St} {ρ : R}
theorem VRel.to3 {B : Nat} {S H S' H' : Hp} {σ σ' : L2.St} {ρ ρ' : R} (v : VRel B S H σ ρ) (h1 : ∀ (i : Nat) (s : Sl), ρ'[i]? = some s → s.leans = true → ρ[i]? = some s ∧ σ'[i]? = σ[i]?) (h2 : ∀ m, B ≤ m → σ'[m]? = σ[m]?)
    (h3 : ∀ (i : Nat) (k : SK) (is : List Nat) (a : Addr) (o : HO), ρ'[i]? = some (.st k is) → ρ[i]? = some (.st k is) → σ[i]? = some (some (.ref a)) → S a = none → H a = some o → S' a = none ∧ H' a = some o)
    (h4 : ∀ (d c : Addr), H d = some (.own c) → S d = none → ¬ OwnAt σ ρ d → S' d = none ∧ H' d = some (.own c) ∧ ¬ OwnAt σ' ρ' d) : VRel B S' H' σ' ρ' where
  st := fun i k is h => by
    obtain ⟨g1, g2⟩ := h1 i _ h rfl
    obtain ⟨a, vs, o, e1, e2, e3, e4, e5⟩ := v.st i k is g1
    obtain ⟨f1, f2⟩ := h3 i k is a o h g1 e1 e2 e3
    refine ⟨a, vs, o, by rw [g2]; exact e1, f1, f2, ?_, Paired.mapP e5 fun v m q => ⟨q.1, by rw [h2 m q.1]; exact q.2⟩⟩
    cases k with
    | lst => exact e4
    | tup => exact e4
    | ins C fs =>
      obtain ⟨l, d, rfl, hd⟩ := e4
      obtain ⟨q1, q2⟩ := v.dx i C fs is a d _ g1 e1 e3
      exact ⟨l, d, rfl, (h4 d _ hd q1 q2).2.1⟩
  al := fun i j h => by
    obtain ⟨g1, g2⟩ := h1 i _ h rfl
    obtain ⟨e1, w, e2, e3⟩ := v.al i j g1
    exact ⟨e1, w, by rw [g2]; exact e2, by rw [h2 j e1]; exact e3⟩
  dx := fun i C fs is a d us h ha hH => by
    obtain ⟨g1, g2⟩ := h1 i _ h rfl
    rw [g2] at ha
    obtain ⟨a', vs, o, e1, e2, e3, e4, e5⟩ := v.st i _ is g1
    rw [ha] at e1
    cases e1
    obtain ⟨f1, f2⟩ := h3 i _ is a o h g1 ha e2 e3
    rw [hH] at f2
    cases f2
    obtain ⟨l, d', q, hd⟩ := e4
    cases q
    obtain ⟨q1, q2⟩ := v.dx i C fs is a d _ g1 ha e3
    obtain ⟨r1, _, r2⟩ := h4 d _ hd q1 q2
    exact ⟨r1, r2⟩
/-- a thing made of parts is forgotten while its place is written -/
theorem Rel.updSt {g : Nat} {k : SK} {is : List Nat} {a : Addr} {o : HO} (h : Rel K B S H σ ρ) (hg : ρ[g]? = some (.st k is)) (ha : σ[g]? = some (some (.ref a))) : Rel K B S (upd H a o) σ (ρ.set g .no) := by
  have hgl : g < ρ.length := (List.getElem?_eq_some_iff.mp hg).1
  obtain ⟨a', vs, o', e1, e2, e3, e4, e5⟩ := h.vir.st g k is hg
  rw [ha] at e1
  cases e1
  have oa : ∀ {b : Addr}, OwnAt σ (ρ.set g .no) b → OwnAt σ ρ b := fun {b} ⟨m, u, hm, e⟩ => by
    rcases get_set hm.1 with ⟨rfl, q', _⟩ | ⟨n', q'⟩
    · have := hm.2
      rw [q'] at this; cases this
    · exact ⟨m, u, ⟨q', hm.2⟩, e⟩
  have ne : ∀ {j : Nat} {s : Sl} {b : Addr}, j ≠ g → Ow ρ j s → σ[j]? = some (some (.ref b)) → b ≠ a := fun {j s b} n q e z => n (h.sep j g _ _ b q ⟨hg, rfl⟩ e (by rw [z]; exact ha))
  refine ⟨by rw [List.length_set]; exact h.len, fun b x e => ?_, fun j x hx => ?_, fun j zs hx => ?_, fun j kk zs hx => ?_, fun j kk s t b h1 h2 h3 h4 => ?_, ?_⟩
  · rw [upd_ne (ne_of_none e e2)]
    exact h.sub _ _ e
  · rcases get_set hx with ⟨rfl, q, _⟩ | ⟨n, q⟩
    · cases q
    · exact h.val j x q
  · rcases get_set hx with ⟨rfl, q, _⟩ | ⟨n, q⟩
    · cases q
    · obtain ⟨b, ws, b1, b2, b3, b4⟩ := h.own j zs q
      exact ⟨b, ws, b1, b2, by rw [upd_ne (ne n (ow q) b1)]; exact b3, b4⟩
  · rcases get_set hx with ⟨rfl, q, _⟩ | ⟨n, q⟩
    · cases q
    · obtain ⟨b, ws, b1, b2, b3⟩ := h.ro j kk zs q
      refine ⟨b, ws, b1, b2.to (fun u e nn => ?_) (fun _ z => oa z), b3⟩
      rw [upd_ne (fun z => nn ⟨g, _, ⟨hg, rfl⟩, by rw [z]; exact ha⟩)]
      exact e
  · rcases get_set h1.1 with ⟨rfl, q, _⟩ | ⟨n1, q1⟩
    · have := h1.2
      rw [q] at this; cases this
    · rcases get_set h2.1 with ⟨rfl, q, _⟩ | ⟨n2, q2⟩
      · have := h2.2
        rw [q] at this; cases this
      · exact h.sep _ _ _ _ b ⟨q1, h1.2⟩ ⟨q2, h2.2⟩ h3 h4
  · refine h.vir.to3 (fun j s q l => ?_) (fun _ _ => rfl) (fun j kk js b u q0 q1 q2 q3 q4 => ⟨q3, ?_⟩) (fun d c q1 q2 n => ⟨q2, ?_, fun z => n (oa z)⟩)
    · rcases get_set q with ⟨rfl, q, _⟩ | ⟨n, q⟩
      · rw [q] at l; cases l
      · exact ⟨q, rfl⟩
    · rcases get_set q0 with ⟨rfl, q, _⟩ | ⟨n, q⟩
      · cases q
      · rw [upd_ne (ne n ⟨q1, rfl⟩ q2)]
        exact q4
    · rw [upd_ne (fun z => ?_)]
      · exact q1
      · rw [z, e3] at q1
        cases q1
        cases k with
        | lst => cases e4
        | tup => cases e4
        | ins C fs =>
          obtain ⟨_, d', q, _⟩ := e4
          cases q
end
section
variable {X : Cx} {new : Fs} {F : List Nat} {pos : Pos} {e : Expr} {tp : PSl}
theorem pSub_le {c : Nat} {σ : L2.St} {S H : Hp} {ρ : R} {j : Nat} (hR : Rel X.K (bd X) S H σ ρ) (h : pSub tp c ρ = some j) : bd X ≤ j := by
  unfold pSub at h
  split at h
  · rename_i i ei
    split at h
    · rename_i is es
      split at h
      · rename_i m em
        obtain ⟨_, vs, _, _, _, _, _, e5⟩ := hR.vir.st i _ is es
        obtain ⟨_, _, hb, _⟩ := paired_at e5 em
        exact hR.follow_le h hb
      · cases h
    · rename_i is es
      split at h
      · rename_i m em
        obtain ⟨_, vs, _, _, _, _, _, e5⟩ := hR.vir.st i _ is es
        obtain ⟨_, _, hb, _⟩ := paired_at e5 em
        exact hR.follow_le h hb
      · cases h
    · cases h
  · cases h
theorem paired_set {P Q : V → Nat → Prop} {v : V} {m : Nat} : ∀ {vs : List V} {is : List Nat} {c : Nat}, Paired P vs is → is.Nodup → is[c]? = some m → Q v m → (∀ w k, k ≠ m → P w k → Q w k) → Paired Q (vs.set c v) is
  | _, _, _, .nil, _, h, _, _ => by simp at h
  | _, _, 0, .cons (b := b0) r t, hn, h, hq, hp => by
    simp at h
    subst h
    rw [List.nodup_cons] at hn
    refine .cons hq ?_
    have go : ∀ {vs : List V} {is : List Nat}, (∀ k ∈ is, k ≠ b0) → Paired P vs is → Paired Q vs is := by
      intro vs is hk p
      induction p with
      | nil => exact .nil
      | cons r t ih => exact .cons (hp _ _ (hk _ List.mem_cons_self) r) (ih fun k hk' => hk k (List.mem_cons_of_mem _ hk'))
    exact go (fun k hk z => hn.1 (z ▸ hk)) t
  | _, _, c + 1, .cons r t, hn, h, hq, hp => by
    rw [List.nodup_cons] at hn
    have h' := by simpa using h
    refine .cons (hp _ _ (fun z => hn.1 ?_) r) (paired_set (c := c) t hn.2 h' hq hp)
    rw [z]
    exact List.mem_of_getElem? h'
/-- x[c] = e, e a way to another part, which then has two ways -/
def tStoP (F : List Nat) (g c : Nat) (tp : PSl) : VS := fun ρ Qn _ => match ρ[g]?, tp ρ with
  | some (.st .lst is), some j => ∃ m, is[c]? = some m ∧ (decide is.Nodup && decide (j ≠ m) && noLean (ρ.set g .no) [m] && decide (m < ρ.length) && !F.contains m) = true ∧ Qn (ρ.set m (.al j))
  | _, _ => False
theorem js_stoP {g c jc : Nat} {x : Str} {p pc pos' : Pos} (hn : Nm X g x) (hgB : decide (g < bd X) = true) (hp : JP X e tp) (hv : ∀ {σ : L2.St} {S H : Hp} {ρ : R} {j : Nat}, Rel X.K (bd X) S H σ ρ → tp ρ = some j → bd X ≤ j) (hx : ((List.range X.N.length).all fun m => decide (m < bd X) || invis X m) = true)
    (hs : swapsWithSole [.Subscript (.Name x p) (.Constant (.int (c : Nat)) jc pc) pos'] e pos.line X.env = pure false) (hw : swappedStores [.Subscript (.Name x p) (.Constant (.int (c : Nat)) jc pc) pos'] e X.env = pure none)
    (h1 : (assignEach [.Subscript (.Name x p) (.Constant (.int (c : Nat)) jc pc) pos'] X.env).map (·.2) = [assign (.Subscript (.Name x p) (.Constant (.int (c : Nat)) jc pc) pos') X.env])
    (ha : ∀ v, assign (.Subscript (.Name x p) (.Constant (.int (c : Nat)) jc pc) pos') X.env v = (do
      let ov ← holding [v] (eval (.Name x p) X.env)
      let iv ← holding [v, ov] (eval (.Constant (.int (c : Nat)) jc pc) X.env)
      standAt pos'
      holding [v, ov, iv] (setItem ov iv v)
      release [v, ov, iv] [])) : JS X new F (.Assign [.Subscript (.Name x p) (.Constant (.int (c : Nat)) jc pc) pos'] e pos) (tStoP F g c tp) := by
  intro σ S H ρ Qn Qr hR ht
  have hgB := of_decide_eq_true hgB
  unfold tStoP at ht
  split at ht
  · rename_i _ _ is j es ej
    obtain ⟨m, hm, hok, ht⟩ := ht
    rw [Bool.and_eq_true, Bool.and_eq_true, Bool.and_eq_true, Bool.and_eq_true] at hok
    obtain ⟨⟨⟨⟨k1, k2⟩, k3⟩, k4⟩, k5⟩ := hok
    have k1 := of_decide_eq_true k1
    have k2 := of_decide_eq_true k2
    have k4 := of_decide_eq_true k4
    have k5 : m ∉ F := fun z => by
      rw [List.contains_iff_mem.mpr z] at k5
      cases k5
    have hjB := hv hR ej
    obtain ⟨a, vs, o, e1, e2, e3, e4, e5⟩ := hR.vir.st g .lst is es
    have e4 : o = .lst vs := e4
    subst e4
    obtain ⟨w, hw1, hmB, hw2⟩ := paired_at e5 hm
    have hcl : c < vs.length := (List.getElem?_eq_some_iff.mp hw1).1
    have him : invis X m = true := by
      by_cases hl : m < X.N.length
      · have := List.all_eq_true.mp hx m (List.mem_range.mpr hl)
        rw [Bool.or_eq_true] at this
        rcases this with z | z
        · have := of_decide_eq_true z
          omega
        · exact z
      · unfold invis
        rw [List.getElem?_eq_none (by omega)]
    refine WS.vir (WS.of (ps_asg peW (pg_sub hn.pe pe_int set_list ha) hs hw h1) ((hp σ S H ρ j hR ej).mono fun v H1 q => ?_))
    obtain ⟨rfl, hjv⟩ := q
    refine ⟨_, e1, a, vs, (c : Nat), c, rfl, rfl, e3, ixN_at' hcl, σ.set m (some v), VirEq.refl.set him, S, ρ.set m (.al j), ?_, ?_, ht⟩
    · have hgl : g < ρ.length := (List.getElem?_eq_some_iff.mp es).1
      have hgm : g ≠ m := by omega
      have Ra := hR.updSt (o := .lst (vs.set c v)) es e1
      have Rb := Ra.setn (i := m) (v := some v) fun jj s _ q => noLean_at k3 q (by simp)
      have Rc := Rb.tella (i := m) (j := j) (v := v) (List.getElem?_set_self (by rw [List.length_set]; exact k4)) (List.getElem?_set_self (by rw [hR.len]; exact k4)) hjB (by rw [List.getElem?_set_ne fun z => k2 z.symm]; exact hjv)
      have oa : ∀ {b : Addr}, OwnAt (σ.set m (some v)) ((((ρ.set g .no).set m .no).set m (.al j))) b → ∃ k s, k ≠ g ∧ Ow ρ k s ∧ σ[k]? = some (some (.ref b)) := fun {b} z => by
        obtain ⟨k, s, hk, e⟩ := z
        rw [List.set_set] at hk
        rcases get_set hk.1 with ⟨rfl, q, _⟩ | ⟨n1, q1⟩
        · have := hk.2
          rw [q] at this; cases this
        · rw [List.getElem?_set_ne fun z => n1 z.symm] at e
          rcases get_set q1 with ⟨rfl, q, _⟩ | ⟨n2, q2⟩
          · have := hk.2
            rw [q] at this; cases this
          · exact ⟨k, s, n2, ⟨q2, hk.2⟩, e⟩
      have Rd := Rc.tello (i := g) (c := a) (s := .st .lst is) (by rw [List.set_set, List.getElem?_set_ne fun z => hgm z.symm]; exact List.getElem?_set_self hgl) (by rw [List.getElem?_set_ne fun z => hgm z.symm]; exact e1) rfl
        (fun z => by
          obtain ⟨k, s, n, q, e⟩ := oa z
          exact n (hR.sep k g _ _ a q ⟨es, rfl⟩ e e1))
        e2 ⟨_, upd_same, rfl⟩
        (fun jj kk xs q => by
          rw [List.set_set] at q
          rcases get_set q with ⟨rfl, q, _⟩ | ⟨n1, q⟩
          · cases q
          · rcases get_set q with ⟨rfl, q, _⟩ | ⟨n2, q⟩
            · cases q
            · obtain ⟨b, ws, b1, b2, b3⟩ := hR.ro jj kk xs q
              refine ⟨b, by rw [List.getElem?_set_ne fun z => n1 z.symm]; exact b1, ?_⟩
              rcases b2 with ⟨rfl, g⟩ | ⟨_, nn⟩
              · exact .inr ⟨rfl, ws, g, b3⟩
              · exact .inl fun z => nn ⟨_, _, ⟨es, rfl⟩, by rw [z]; exact e1⟩)
        (fun xs z => by cases z)
        (fun kk js z => by
          cases z
          refine ⟨vs.set c v, _, upd_same, rfl, paired_set e5 k1 hm ⟨hmB, List.getElem?_set_self (by rw [hR.len]; exact k4)⟩ fun w k n q => ⟨q.1, by rw [List.getElem?_set_ne fun z => n z.symm]; exact q.2⟩⟩)
        (fun C fs js d us z => by cases z)
      have ee : ((((ρ.set g .no).set m .no).set m (.al j)).set g (.st .lst is)) = ρ.set m (.al j) := by
        refine List.ext_getElem? fun k => ?_
        by_cases hk : k = g
        · subst hk
          rw [List.getElem?_set_self (by simp only [List.length_set]; exact hgl), List.getElem?_set_ne fun z => hgm z.symm, es]
        · rw [List.getElem?_set_ne fun z => hk z.symm, List.set_set]
          by_cases hk2 : k = m
          · subst hk2
            rw [List.getElem?_set_self (by rw [List.length_set]; exact k4), List.getElem?_set_self k4]
          · rw [List.getElem?_set_ne fun z => hk2 z.symm, List.getElem?_set_ne fun z => hk z.symm, List.getElem?_set_ne fun z => hk2 z.symm]
      rw [ee] at Rd
      exact Rd
    · refine ⟨Same.refl _, fun b h => ?_, fun _ _ h _ => h, fun b u h _ n => ?_, fun b z => .inl (own_set rfl z), fun k hk => List.getElem?_set_ne fun z => k5 (by rw [z]; exact hk), fun k hk h => ?_⟩
      · by_cases z : b = a
        · rw [z, upd_same]; simp
        · rw [upd_ne z]; exact h
      · rw [upd_ne fun z => n ⟨g, _, ⟨es, rfl⟩, by rw [z]; exact e1⟩]
        exact h
      · rw [List.getElem?_set_ne fun z => k5 (by rw [z]; exact hk)]
        exact h
  · exact ht.elim
end
end WA

/-! WA21: things made of parts, told by their shape: made, told, handed out, put into slots. -/
namespace WA
open PySem PySem.Spec PyProof.Rows L2
def Fs.size : Fs → Nat
  | .nil => 0
  | .val t => t.size + 1
  | .lst t => t.size + 1
  | .pts _ c t => c.size + t.size + 1
/-- the slots of the roots, from those of all (first the root, then what stands under it, then the next) -/
def Fs.roots : Fs → List Nat → List Nat
  | .val t, n :: ns => n :: t.roots ns
  | .lst t, n :: ns => n :: t.roots ns
  | .pts _ c t, n :: ns => n :: t.roots (ns.drop c.size)
  | _, _ => []
def itemsD : D → List D
  | .list xs => xs
  | .tuple xs => xs
  | _ => []
theorem itemsD_d (k : SK) (xs : List D) : itemsD (k.d xs) = xs := by cases k <;> rfl
def putF : Fs → List Nat → List D → R → R
  | .val t, n :: ns, x :: xs, ρ => putF t ns xs (ρ.set n (.v x))
  | .lst t, n :: ns, x :: xs, ρ => putF t ns xs (ρ.set n (.own (itemsD x)))
  | .pts k c t, n :: ns, x :: xs, ρ => putF t (ns.drop c.size) xs ((putF c ns (itemsD x) ρ).set n (.st k (c.roots ns)))
  | _, _, _, ρ => ρ
/-- what stands under another stands in slots without a name -/
def okF (B : Nat) : Fs → List Nat → Bool
  | .val t, _ :: ns => okF B t ns
  | .lst t, _ :: ns => okF B t ns
  | .pts _ c t, _ :: ns => ((c.roots ns).all fun m => decide (B ≤ m)) && okF B c ns && okF B t (ns.drop c.size)
  | _, _ => true
theorem mem_drop_take {α : Type} {l : List α} {a b : Nat} {x : α} (h : x ∈ (l.drop a).take b) : x ∈ l.take (a + b) := by
  have e : (l.take (a + b)).drop a = (l.drop a).take b := by
    rw [List.drop_take]
    congr 1
    omega
  rw [← e] at h
  exact List.mem_of_mem_drop h
theorem mem_take_le {α : Type} {l : List α} {a b : Nat} {x : α} (hab : a ≤ b) (h : x ∈ l.take a) : x ∈ l.take b := by
  have e : (l.take b).take a = l.take a := by rw [List.take_take, Nat.min_eq_left hab]
  rw [← e] at h
  exact List.mem_of_mem_take h
theorem roots_sub : ∀ (f : Fs) {ns : List Nat} {m : Nat}, m ∈ f.roots ns → m ∈ ns.take f.size
  | .nil, ns, m, h => by cases ns <;> cases h
  | .val t, [], m, h => by cases h
  | .lst t, [], m, h => by cases h
  | .pts _ c t, [], m, h => by cases h
  | .val t, n :: ns, m, h => by
    show m ∈ n :: ns.take t.size
    rcases List.mem_cons.mp h with rfl | h
    · exact List.mem_cons_self
    · exact List.mem_cons_of_mem _ (roots_sub t h)
  | .lst t, n :: ns, m, h => by
    show m ∈ n :: ns.take t.size
    rcases List.mem_cons.mp h with rfl | h
    · exact List.mem_cons_self
    · exact List.mem_cons_of_mem _ (roots_sub t h)
  | .pts _ c t, n :: ns, m, h => by
    show m ∈ n :: ns.take (c.size + t.size)
    rcases List.mem_cons.mp h with rfl | h
    · exact List.mem_cons_self
    · exact List.mem_cons_of_mem _ (mem_drop_take (roots_sub t h))
theorem noLean_sub {ρ : R} {is js : List Nat} (h : noLean ρ is = true) (hs : ∀ m ∈ js, m ∈ is) : noLean ρ js = true :=
  List.all_eq_true.mpr fun t ht => List.all_eq_true.mpr fun k hk => by
    have h1 := List.all_eq_true.mp (List.all_eq_true.mp h t ht) k hk
    rw [Bool.not_eq_true'] at h1 ⊢
    cases q : js.contains k with
    | false => rfl
    | true =>
      rw [List.contains_iff_mem.mpr (hs k (List.contains_iff_mem.mp q))] at h1
      cases h1
theorem noLean_setS {ρ : R} {is : List Nat} {m : Nat} {s : Sl} (h : noLean ρ is = true) (hs : ∀ k ∈ s.on, k ∉ is) : noLean (ρ.set m s) is = true := by
  refine List.all_eq_true.mpr fun t ht => ?_
  rcases List.mem_or_eq_of_mem_set ht with z | z
  · exact List.all_eq_true.mp h t z
  · rw [z]
    refine List.all_eq_true.mpr fun k hk => ?_
    rw [Bool.not_eq_true']
    cases q : is.contains k with
    | false => rfl
    | true => exact absurd (List.contains_iff_mem.mp q) (hs k hk)
section
variable {K : PySem.W.Frag} {B : Nat} {S H H0 : Hp}
theorem nodup_cut {l : List Nat} (h : l.Nodup) (a : Nat) {m : Nat} (h1 : m ∈ l.take a) (h2 : m ∈ l.drop a) : False := by
  rw [← List.take_append_drop a l, List.nodup_append] at h
  exact h.2.2 m h1 m h2 rfl
theorem objR_ownable {k : SK} {a : Addr} {vs : List V} {o : HO} (h : k.objR H a vs o) : ownable o = true := by
  cases k with
  | lst => cases h; rfl
  | tup => cases h; rfl
  | ins C fs =>
    obtain ⟨_, d, rfl, _⟩ := h
    rfl
structure PutOk (K : PySem.W.Frag) (B : Nat) (S H H0 : Hp) (σ : L2.St) (ρ : R) (vs : List V) (as : List Addr) (rs us : List Nat) (σ' : L2.St) (ρ' : R) : Prop where
  rel : Rel K B S H σ' ρ'
  ro : RoOld K S H0 σ' ρ'
  at_ : Paired (fun (v : V) (m : Nat) => σ'[m]? = some (some v)) vs rs
  out : ∀ m, m ∉ us → σ'[m]? = σ[m]? ∧ ρ'[m]? = ρ[m]?
  own : ∀ b, OwnAt σ' ρ' b → OwnAt σ ρ b ∨ b ∈ as
  lean : ∀ ms, (∀ m ∈ ms, m ∉ us) → noLean ρ ms = true → noLean ρ' ms = true
  len : ρ'.length = ρ.length
theorem forest_ok : ∀ (f : Fs) {ns : List Nat} {vs : List V} {xs : List D} {as : List Addr} {σ : L2.St} {ρ : R}, Rel K B S H σ ρ → RoOld K S H0 σ ρ → OwnF S H f vs xs as → as.Nodup → (∀ a ∈ as, H0 a = none ∧ S a = none ∧ ¬ OwnAt σ ρ a) → ns.Nodup → noLean ρ ns = true → (∀ m ∈ ns, m < ρ.length) → f.size ≤ ns.length → okF B f ns = true →
    ∃ σ', PutOk K B S H H0 σ ρ vs as (f.roots ns) (ns.take f.size) σ' (putF f ns xs ρ)
  | .nil, ns, _, _, _, σ, ρ, hR, hO, ⟨rfl, rfl, rfl⟩, _, _, _, _, _, _, _ => by
    refine ⟨σ, ?_⟩
    have e : putF .nil ns [] ρ = ρ := by cases ns <;> rfl
    have e2 : Fs.roots .nil ns = [] := by cases ns <;> rfl
    rw [e, e2]
    exact ⟨hR, hO, .nil, fun _ _ => ⟨rfl, rfl⟩, fun _ h => .inl h, fun _ _ h => h, rfl⟩
  | .val t, [], _, _, _, _, _, _, _, _, _, _, _, _, _, h, _ => by cases h
  | .lst t, [], _, _, _, _, _, _, _, _, _, _, _, _, _, h, _ => by cases h
  | .pts _ c t, [], _, _, _, _, _, _, _, _, _, _, _, _, _, h, _ => by cases h
  | .val t, n :: ns, _, _, as, σ, ρ, hR, hO, ⟨v, x, vs, xs, rfl, rfl, hv, ht⟩, nd, ha, hn, hl, hlt, hsz, hok => by
    rw [List.nodup_cons] at hn
    have hml : n < ρ.length := hlt n List.mem_cons_self
    have h1 := hR.setn (i := n) (v := some v) fun j s _ q => noLean_at hl q List.mem_cons_self
    have R2 := h1.tellv (List.getElem?_set_self hml) (List.getElem?_set_self (by rw [hR.len]; exact hml)) hv
    rw [List.set_set] at R2
    obtain ⟨σ', p⟩ := forest_ok t R2 (hO.set fun _ _ z => by cases z) ht nd (fun a h => ⟨(ha a h).1, (ha a h).2.1, fun z => (ha a h).2.2 (own_set rfl z)⟩) hn.2 (noLean_set (noLean_tail hl) rfl) (fun m hm => by rw [List.length_set]; exact hlt m (List.mem_cons_of_mem _ hm)) (by have : t.size + 1 ≤ ns.length + 1 := hsz; omega) hok
    have hnt : n ∉ ns.take t.size := fun z => hn.1 (List.mem_of_mem_take z)
    refine ⟨σ', p.rel, p.ro, .cons (by rw [(p.out n hnt).1]; exact List.getElem?_set_self (by rw [hR.len]; exact hml)) p.at_, fun m hm => ?_, fun b z => ?_, fun ms hms h => ?_, by rw [putF, p.len, List.length_set]⟩
    · have hm : m ∉ n :: ns.take t.size := hm
      obtain ⟨q1, q2⟩ := p.out m fun z => hm (List.mem_cons_of_mem _ z)
      have nm : n ≠ m := fun z => hm (by rw [z]; exact List.mem_cons_self)
      exact ⟨by rw [q1, List.getElem?_set_ne nm], by rw [putF, q2, List.getElem?_set_ne nm]⟩
    · rcases p.own b z with z | z
      · exact .inl (own_set rfl z)
      · exact .inr z
    · exact p.lean ms (fun m hm z => hms m hm (List.mem_cons_of_mem _ z)) (noLean_set h rfl)
  | .lst t, n :: ns, _, _, _, σ, ρ, hR, hO, ⟨a, ws, ds, vs, xs, as, rfl, rfl, rfl, haH, hd, ht⟩, nd, ha, hn, hl, hlt, hsz, hok => by
    rw [List.nodup_cons] at hn nd
    obtain ⟨ha0, haS, hao⟩ := ha a List.mem_cons_self
    have hml : n < ρ.length := hlt n List.mem_cons_self
    have h1 := hR.setn (i := n) (v := some (.ref a)) fun j s _ q => noLean_at hl q List.mem_cons_self
    have e1 : (σ.set n (some (V.ref a)))[n]? = some (some (.ref a)) := List.getElem?_set_self (by rw [hR.len]; exact hml)
    have R2 := h1.tello (s := .own ds) (List.getElem?_set_self hml) e1 rfl (fun z => hao (own_set rfl z)) haS ⟨_, haH, rfl⟩ ((hO.set (fun _ _ z => by cases z)).at ha0) (fun ys z => by cases z; exact ⟨ws, haH, hd⟩) (fun k is z => by cases z) (fun C fs is d us z => by cases z)
    rw [List.set_set] at R2
    have ow1 : ∀ b, OwnAt (σ.set n (some (.ref a))) (ρ.set n (.own ds)) b → OwnAt σ ρ b ∨ b = a := fun b ⟨k, u, hk, e⟩ => by
      rcases get_set hk.1 with ⟨rfl, q', _⟩ | ⟨n', q'⟩
      · rw [e1] at e
        cases e
        exact .inr rfl
      · rw [List.getElem?_set_ne fun z => n' z.symm] at e
        exact .inl ⟨k, u, ⟨q', hk.2⟩, e⟩
    obtain ⟨σ', p⟩ := forest_ok t R2 (hO.set fun _ _ z => by cases z) ht nd.2 (fun b h => ⟨(ha b (List.mem_cons_of_mem _ h)).1, (ha b (List.mem_cons_of_mem _ h)).2.1, fun z => by
      rcases ow1 b z with z | z
      · exact (ha b (List.mem_cons_of_mem _ h)).2.2 z
      · exact nd.1 (z ▸ h)⟩) hn.2 (noLean_set (noLean_tail hl) rfl) (fun m hm => by rw [List.length_set]; exact hlt m (List.mem_cons_of_mem _ hm)) (by have : t.size + 1 ≤ ns.length + 1 := hsz; omega) hok
    have hnt : n ∉ ns.take t.size := fun z => hn.1 (List.mem_of_mem_take z)
    have ep : putF (.lst t) (n :: ns) (.list ds :: xs) ρ = putF t ns xs (ρ.set n (.own ds)) := rfl
    rw [ep]
    refine ⟨σ', p.rel, p.ro, .cons (by rw [(p.out n hnt).1]; exact e1) p.at_, fun m hm => ?_, fun b z => ?_, fun ms hms h => ?_, by rw [p.len, List.length_set]⟩
    · have hm : m ∉ n :: ns.take t.size := hm
      obtain ⟨q1, q2⟩ := p.out m fun z => hm (List.mem_cons_of_mem _ z)
      have nm : n ≠ m := fun z => hm (by rw [z]; exact List.mem_cons_self)
      exact ⟨by rw [q1, List.getElem?_set_ne nm], by rw [q2, List.getElem?_set_ne nm]⟩
    · rcases p.own b z with z | z
      · rcases ow1 b z with z | z
        · exact .inl z
        · exact .inr (by rw [z]; exact List.mem_cons_self)
      · exact .inr (List.mem_cons_of_mem _ z)
    · exact p.lean ms (fun m hm z => hms m hm (List.mem_cons_of_mem _ z)) (noLean_set h rfl)
  | .pts k c t, n :: ns, _, _, _, σ, ρ, hR, hO, ⟨a, us, ys, o, bs, vs, xs, as, rfl, rfl, rfl, haH, hob, hc, ht⟩, nd, ha, hn, hl, hlt, hsz, hok => by
    rw [List.nodup_cons] at hn nd
    have hsz : c.size + t.size + 1 ≤ ns.length + 1 := hsz
    have hok : (((c.roots ns).all fun m => decide (B ≤ m)) && okF B c ns && okF B t (ns.drop c.size)) = true := hok
    rw [Bool.and_eq_true, Bool.and_eq_true] at hok
    obtain ⟨⟨hokr, hokc⟩, hokt⟩ := hok
    obtain ⟨ha0, haS, hao⟩ := ha a List.mem_cons_self
    have nd1 := nd.1
    have nd2 := nd.2
    rw [List.nodup_append, List.nodup_append] at nd2
    obtain ⟨ndx, ⟨ndb, nda, ndba⟩, ndr⟩ := nd2
    have mb : ∀ b ∈ bs, b ∈ a :: (SK.dx o ++ (bs ++ as)) := fun b h => List.mem_cons_of_mem _ (List.mem_append_right _ (List.mem_append_left _ h))
    have mt : ∀ b ∈ as, b ∈ a :: (SK.dx o ++ (bs ++ as)) := fun b h => List.mem_cons_of_mem _ (List.mem_append_right _ (List.mem_append_right _ h))
    have md : ∀ b ∈ SK.dx o, b ∈ a :: (SK.dx o ++ (bs ++ as)) := fun b h => List.mem_cons_of_mem _ (List.mem_append_left _ h)
    have hml : n < ρ.length := hlt n List.mem_cons_self
    -- what stands under it
    obtain ⟨σ1, p⟩ := forest_ok c hR hO hc ndb (fun b h => ha b (mb b h)) hn.2 (noLean_tail hl) (fun m hm => hlt m (List.mem_cons_of_mem _ hm)) (by omega) hokc
    have hnc : n ∉ ns.take c.size := fun z => hn.1 (List.mem_of_mem_take z)
    have hl1 : noLean (putF c ns ys ρ) [n] = true := p.lean [n] (fun m hm => by rw [List.mem_singleton.mp hm]; exact hnc) (noLean_sub hl fun m hm => by rw [List.mem_singleton.mp hm]; exact List.mem_cons_self)
    have hml1 : n < (putF c ns ys ρ).length := by rw [p.len]; exact hml
    have h1 := p.rel.setn (i := n) (v := some (.ref a)) fun j s _ q => noLean_at hl1 q (by simp)
    have e1 : (σ1.set n (some (V.ref a)))[n]? = some (some (.ref a)) := List.getElem?_set_self (by rw [p.rel.len]; exact hml1)
    have nown : ∀ {b : Addr}, b ∉ bs → ¬ OwnAt σ ρ b → ¬ OwnAt (σ1.set n (some (.ref a))) ((putF c ns ys ρ).set n .no) b := fun {b} h h' z => by
      rcases p.own b (own_set rfl z) with z | z
      · exact h' z
      · exact h z
    have hab : a ∉ bs := fun z => nd1 (List.mem_append_right _ (List.mem_append_left _ z))
    have R2 := h1.tello (s := .st k (c.roots ns)) (List.getElem?_set_self hml1) e1 rfl (nown hab hao) haS ⟨_, haH, objR_ownable hob⟩ ((p.ro.set (fun _ _ z => by cases z)).at ha0) (fun ys z => by cases z)
      (fun k' is z => by
        cases z
        refine ⟨us, o, haH, hob, ?_⟩
        have go : ∀ {us : List V} {js : List Nat}, (∀ m ∈ js, m ∈ c.roots ns) → Paired (fun (v : V) (m : Nat) => σ1[m]? = some (some v)) us js → Paired (fun (v : V) (m : Nat) => B ≤ m ∧ (σ1.set n (some (.ref a)))[m]? = some (some v)) us js := by
          intro us js hj q
          induction q with
          | nil => exact .nil
          | cons r tl ih =>
            rename_i v m _ _
            have hm := hj m List.mem_cons_self
            refine .cons ⟨of_decide_eq_true (List.all_eq_true.mp hokr m hm), ?_⟩ (ih fun m hm => hj m (List.mem_cons_of_mem _ hm))
            rw [List.getElem?_set_ne fun z => hnc (by rw [z]; exact roots_sub c hm)]
            exact r
        exact go (fun _ h => h) p.at_)
      (fun C fs is d ws z e => by
        rw [haH] at e
        cases e
        have hd : d ∈ SK.dx (HO.ins C d ws) := List.mem_cons_self
        obtain ⟨_, d2, d3⟩ := ha d (md d hd)
        exact ⟨d2, nown (fun z => ndr d hd d (List.mem_append_left _ z) rfl) d3⟩)
    rw [List.set_set] at R2
    have ow1 : ∀ b, OwnAt (σ1.set n (some (.ref a))) ((putF c ns ys ρ).set n (.st k (c.roots ns))) b → OwnAt σ ρ b ∨ b = a ∨ b ∈ bs := fun b ⟨j, u, hk, e⟩ => by
      rcases get_set hk.1 with ⟨rfl, q', _⟩ | ⟨n', q'⟩
      · rw [e1] at e
        cases e
        exact .inr (.inl rfl)
      · rw [List.getElem?_set_ne fun z => n' z.symm] at e
        rcases p.own b ⟨j, u, ⟨q', hk.2⟩, e⟩ with z | z
        · exact .inl z
        · exact .inr (.inr z)
    have hdr : ∀ m ∈ ns.drop c.size, m ∉ ns.take c.size := fun m h1 h2 => nodup_cut hn.2 c.size h2 h1
    have hl2 : noLean ((putF c ns ys ρ).set n (.st k (c.roots ns))) (ns.drop c.size) = true := noLean_setS (p.lean _ hdr (noLean_sub (noLean_tail hl) fun m hm => List.mem_of_mem_drop hm)) fun m hm z => hdr m z (roots_sub c hm)
    obtain ⟨σ', q⟩ := forest_ok t R2 (p.ro.set fun _ _ z => by cases z) ht nda (fun b h => ⟨(ha b (mt b h)).1, (ha b (mt b h)).2.1, fun z => by
      rcases ow1 b z with z | z | z
      · exact (ha b (mt b h)).2.2 z
      · exact nd1 (List.mem_append_right _ (List.mem_append_right _ (z ▸ h)))
      · exact ndba b z b h rfl⟩) (hn.2.drop) hl2 (fun m hm => by rw [List.length_set, p.len]; exact hlt m (List.mem_cons_of_mem _ (List.mem_of_mem_drop hm))) (by rw [List.length_drop]; omega) hokt
    have hnt : n ∉ (ns.drop c.size).take t.size := fun z => hn.1 (List.mem_of_mem_drop (List.mem_of_mem_take z))
    have ep : putF (.pts k c t) (n :: ns) (k.d ys :: xs) ρ = putF t (ns.drop c.size) xs ((putF c ns ys ρ).set n (.st k (c.roots ns))) := by
      rw [putF, itemsD_d]
    rw [ep]
    refine ⟨σ', q.rel, q.ro, .cons (by rw [(q.out n hnt).1]; exact e1) q.at_, fun m hm => ?_, fun b z => ?_, fun ms hms h => ?_, by rw [q.len, List.length_set, p.len]⟩
    · have hm : m ∉ n :: ns.take (c.size + t.size) := hm
      have nm : n ≠ m := fun z => hm (by rw [z]; exact List.mem_cons_self)
      obtain ⟨q1, q2⟩ := q.out m fun z => hm (List.mem_cons_of_mem _ (mem_drop_take z))
      obtain ⟨p1, p2⟩ := p.out m fun z => hm (List.mem_cons_of_mem _ (mem_take_le (by omega) z))
      exact ⟨by rw [q1, List.getElem?_set_ne nm, p1], by rw [q2, List.getElem?_set_ne nm, p2]⟩
    · rcases q.own b z with z | z
      · rcases ow1 b z with z | z | z
        · exact .inl z
        · exact .inr (by rw [z]; exact List.mem_cons_self)
        · exact .inr (mb b z)
      · exact .inr (mt b z)
    · have hms1 : ∀ m ∈ ms, m ∉ ns.take c.size := fun m hm z => hms m hm (List.mem_cons_of_mem _ (mem_take_le (by omega) z))
      refine q.lean ms (fun m hm z => hms m hm (List.mem_cons_of_mem _ (mem_drop_take z))) (noLean_setS (p.lean ms hms1 h) fun m hm z => hms1 m z (roots_sub c hm))
end
end WA

/-! WA22: expressions that tell a new thing made of parts. -/
namespace WA
open PySem PySem.Spec PyProof.Rows L2
section
variable {K : PySem.W.Frag} {B : Nat} {S S' H H' : Hp} {σ : L2.St} {ρ : R}
theorem OwnF.mono (e : Same S S') : ∀ (f : Fs) {vs : List V} {xs : List D} {as : List Addr}, (∀ a ∈ as, ∀ o, H a = some o → H' a = some o) → OwnF S H f vs xs as → OwnF S' H' f vs xs as
  | .nil, _, _, _, _, h => h
  | .val t, _, _, _, k, ⟨v, x, vs, xs, e1, e2, hv, ht⟩ => ⟨v, x, vs, xs, e1, e2, hv.mono e, OwnF.mono e t k ht⟩
  | .lst t, _, _, _, k, ⟨a, ws, ds, vs, xs, as, e1, e2, e3, h1, h2, ht⟩ => by
    subst e3
    exact ⟨a, ws, ds, vs, xs, as, e1, e2, rfl, k a List.mem_cons_self _ h1, h2.mono e, OwnF.mono e t (fun b hb => k b (List.mem_cons_of_mem _ hb)) ht⟩
  | .pts q c t, _, _, _, k, ⟨a, us, ys, o, bs, vs, xs, as, e1, e2, e3, h1, h2, hc, ht⟩ => by
    subst e3
    refine ⟨a, us, ys, o, bs, vs, xs, as, e1, e2, rfl, k a List.mem_cons_self _ h1, ?_, OwnF.mono e c (fun b hb => k b (List.mem_cons_of_mem _ (List.mem_append_right _ (List.mem_append_left _ hb)))) hc, OwnF.mono e t (fun b hb => k b (List.mem_cons_of_mem _ (List.mem_append_right _ (List.mem_append_right _ hb)))) ht⟩
    cases q with
    | lst => exact h2
    | tup => exact h2
    | ins C fs =>
      obtain ⟨g1, d, rfl, g2⟩ := h2
      exact ⟨g1, d, rfl, k d (List.mem_cons_of_mem _ (List.mem_append_left _ List.mem_cons_self)) _ g2⟩
theorem OwnF.there : ∀ (f : Fs) {vs : List V} {xs : List D} {as : List Addr}, OwnF S H f vs xs as → ∀ a ∈ as, H a ≠ none
  | .nil, _, _, _, ⟨_, _, e⟩, a, ha => by rw [e] at ha; cases ha
  | .val t, _, _, _, ⟨v, x, vs, xs, e1, e2, hv, ht⟩, a, ha => OwnF.there t ht a ha
  | .lst t, _, _, _, ⟨b, ws, ds, vs, xs, as, e1, e2, e3, h1, h2, ht⟩, a, ha => by
    subst e3
    rcases List.mem_cons.mp ha with rfl | ha
    · rw [h1]; simp
    · exact OwnF.there t ht a ha
  | .pts q c t, _, _, _, ⟨b, us, ys, o, bs, vs, xs, as, e1, e2, e3, h1, h2, hc, ht⟩, a, ha => by
    subst e3
    rcases List.mem_cons.mp ha with rfl | ha
    · rw [h1]; simp
    rcases List.mem_append.mp ha with ha | ha
    · cases q with
      | lst => cases h2; cases ha
      | tup => cases h2; cases ha
      | ins C fs =>
        obtain ⟨g1, d, rfl, g2⟩ := h2
        rw [List.mem_singleton.mp ha, g2]
        simp
    rcases List.mem_append.mp ha with ha | ha
    · exact OwnF.there c hc a ha
    · exact OwnF.there t ht a ha
def Fs.app : Fs → Fs → Fs
  | .nil, g => g
  | .val t, g => .val (t.app g)
  | .lst t, g => .lst (t.app g)
  | .pts k c t, g => .pts k c (t.app g)
theorem OwnF.app {g : Fs} {ws : List V} {zs : List D} {cs : List Addr} (hg : OwnF S H g ws zs cs) : ∀ (f : Fs) {vs : List V} {xs : List D} {as : List Addr}, OwnF S H f vs xs as → OwnF S H (f.app g) (vs ++ ws) (xs ++ zs) (as ++ cs)
  | .nil, _, _, _, ⟨rfl, rfl, rfl⟩ => hg
  | .val t, _, _, _, ⟨v, x, vs, xs, e1, e2, hv, ht⟩ => ⟨v, x, vs ++ ws, xs ++ zs, by rw [e1]; rfl, by rw [e2]; rfl, hv, OwnF.app hg t ht⟩
  | .lst t, _, _, _, ⟨a, us, ds, vs, xs, as, e1, e2, e3, h1, h2, ht⟩ => ⟨a, us, ds, vs ++ ws, xs ++ zs, as ++ cs, by rw [e1]; rfl, by rw [e2]; rfl, by rw [e3]; rfl, h1, h2, OwnF.app hg t ht⟩
  | .pts q c t, _, _, _, ⟨a, us, ys, o, bs, vs, xs, as, e1, e2, e3, h1, h2, hc, ht⟩ => ⟨a, us, ys, o, bs, vs ++ ws, xs ++ zs, as ++ cs, by rw [e1]; rfl, by rw [e2]; rfl, by rw [e3]; simp, h1, h2, hc, OwnF.app hg t ht⟩
/-- taken among what is known -/
theorem Rel.know2 {p : Addr} {o : HO} (h : Rel K B S H σ ρ) (hp : H p = some o) (hn : ¬ OwnAt σ ρ p) (hS : S p = none) (hl : ownable o = true) : Rel K B (upd S p o) H σ ρ where
  len := h.len
  sub := fun b x e => by
    by_cases hb : b = p
    · subst hb
      rw [upd_same] at e
      cases e
      exact hp
    · rw [upd_ne hb] at e
      exact h.sub _ _ e
  val := fun i x hx => by
    obtain ⟨w, a, b⟩ := h.val i x hx
    exact ⟨w, a, b.mono (same_upd hS)⟩
  own := fun i xs hx => by
    obtain ⟨a, vs, b1, b2, b3, b4⟩ := h.own i xs hx
    refine ⟨a, vs, b1, ?_, b3, b4.mono (same_upd hS)⟩
    rw [upd_ne (fun z => hn ⟨i, _, ow hx, by rw [← z]; exact b1⟩)]
    exact b2
  ro := fun i k xs hx => by
    obtain ⟨a, vs, b1, b2, b3⟩ := h.ro i k xs hx
    exact ⟨a, vs, b1, b2, b3.mono (same_upd hS)⟩
  sep := h.sep
  vir := h.vir.to (fun _ _ q _ => ⟨q, rfl⟩) (fun _ _ => rfl) (fun i k is a u q1 q2 q3 q4 => ⟨by rw [upd_ne (fun z => hn ⟨i, _, ⟨q1, rfl⟩, by rw [← z]; exact q2⟩)]; exact q3, q4⟩)
    (fun d c q1 q2 n => ⟨by rw [upd_ne (fun z => by rw [z, hp] at q1; cases q1; cases hl)]; exact q2, q1, n⟩)
def Fs.plain : Fs → Bool
  | .nil => true
  | .val t => t.plain
  | .lst t => t.plain
  | .pts .lst c t => c.plain && t.plain
  | .pts .tup c t => c.plain && t.plain
  | .pts _ _ _ => false
theorem freeze : ∀ (f : Fs) {S : Hp} {vs : List V} {xs : List D} {as : List Addr}, f.plain = true → Rel K B S H σ ρ → OwnF S H f vs xs as → as.Nodup → (∀ a ∈ as, S a = none ∧ ¬ OwnAt σ ρ a) →
    ∃ S', Same S S' ∧ Rel K B S' H σ ρ ∧ RpAll S' vs xs ∧ ∀ b, b ∉ as → S' b = S b
  | .nil, S, _, _, _, _, hR, ⟨rfl, rfl, rfl⟩, _, _ => ⟨S, Same.refl _, hR, .nil, fun _ _ => rfl⟩
  | .val t, S, _, _, _, hp, hR, ⟨v, x, vs, xs, rfl, rfl, hv, ht⟩, nd, ha => by
    obtain ⟨S', h1, h2, h3, h4⟩ := freeze t hp hR ht nd ha
    exact ⟨S', h1, h2, .cons (hv.mono h1) h3, h4⟩
  | .lst t, S, _, _, _, hp, hR, ⟨a, ws, ds, vs, xs, as, rfl, rfl, rfl, g1, g2, ht⟩, nd, ha => by
    rw [List.nodup_cons] at nd
    obtain ⟨a1, a2⟩ := ha a List.mem_cons_self
    have R1 := hR.know2 g1 a2 a1 rfl
    have ne : ∀ b ∈ as, b ≠ a := fun b hb z => nd.1 (z ▸ hb)
    obtain ⟨S', h1, h2, h3, h4⟩ := freeze t hp R1 (OwnF.mono (same_upd a1) t (fun _ _ _ h => h) ht) nd.2 (fun b hb => ⟨by rw [upd_ne (ne b hb)]; exact (ha b (List.mem_cons_of_mem _ hb)).1, (ha b (List.mem_cons_of_mem _ hb)).2⟩)
    refine ⟨S', (same_upd a1).trans h1, h2, .cons (.lst (h1 _ _ upd_same) (g2.mono ((same_upd a1).trans h1))) h3, fun b hb => ?_⟩
    rw [h4 b fun z => hb (List.mem_cons_of_mem _ z), upd_ne fun z => hb (by rw [z]; exact List.mem_cons_self)]
  | .pts .lst c t, S, _, _, _, hp, hR, ⟨a, us, ys, o, bs, vs, xs, as, rfl, rfl, rfl, g1, g2, hc, ht⟩, nd, ha => by
    cases g2
    have nd : (a :: (bs ++ as)).Nodup := nd
    have ha : ∀ b ∈ a :: (bs ++ as), S b = none ∧ ¬ OwnAt σ ρ b := ha
    have hp : (c.plain && t.plain) = true := hp
    rw [Bool.and_eq_true] at hp
    rw [List.nodup_cons, List.nodup_append] at nd
    obtain ⟨a1, a2⟩ := ha a List.mem_cons_self
    obtain ⟨S1, h1, h2, h3, h4⟩ := freeze c hp.1 hR hc nd.2.1 (fun b hb => ha b (List.mem_cons_of_mem _ (List.mem_append_left _ hb)))
    have a3 : S1 a = none := by
      rw [h4 a fun z => nd.1 (List.mem_append_left _ z)]
      exact a1
    have R2 := h2.know2 g1 a2 a3 rfl
    have ne : ∀ b ∈ as, b ≠ a := fun b hb z => nd.1 (List.mem_append_right _ (z ▸ hb))
    obtain ⟨S', k1, k2, k3, k4⟩ := freeze t hp.2 R2 (OwnF.mono (h1.trans (same_upd a3)) t (fun _ _ _ h => h) ht) nd.2.2.1 (fun b hb => ⟨by
      rw [upd_ne (ne b hb), h4 b fun z => nd.2.2.2 b z b hb rfl]
      exact (ha b (List.mem_cons_of_mem _ (List.mem_append_right _ hb))).1, (ha b (List.mem_cons_of_mem _ (List.mem_append_right _ hb))).2⟩)
    refine ⟨S', (h1.trans (same_upd a3)).trans k1, k2, .cons (.lst (k1 _ _ upd_same) (h3.mono ((same_upd a3).trans k1))) k3, fun b hb => ?_⟩
    rw [k4 b fun z => hb (List.mem_cons_of_mem _ (List.mem_append_right _ (List.mem_append_right _ z))), upd_ne fun z => hb (by rw [z]; exact List.mem_cons_self), h4 b fun z => hb (List.mem_cons_of_mem _ (List.mem_append_right _ (List.mem_append_left _ z)))]
  | .pts .tup c t, S, _, _, _, hp, hR, ⟨a, us, ys, o, bs, vs, xs, as, rfl, rfl, rfl, g1, g2, hc, ht⟩, nd, ha => by
    cases g2
    have nd : (a :: (bs ++ as)).Nodup := nd
    have ha : ∀ b ∈ a :: (bs ++ as), S b = none ∧ ¬ OwnAt σ ρ b := ha
    have hp : (c.plain && t.plain) = true := hp
    rw [Bool.and_eq_true] at hp
    rw [List.nodup_cons, List.nodup_append] at nd
    obtain ⟨a1, a2⟩ := ha a List.mem_cons_self
    obtain ⟨S1, h1, h2, h3, h4⟩ := freeze c hp.1 hR hc nd.2.1 (fun b hb => ha b (List.mem_cons_of_mem _ (List.mem_append_left _ hb)))
    have a3 : S1 a = none := by
      rw [h4 a fun z => nd.1 (List.mem_append_left _ z)]
      exact a1
    have R2 := h2.know2 g1 a2 a3 rfl
    have ne : ∀ b ∈ as, b ≠ a := fun b hb z => nd.1 (List.mem_append_right _ (z ▸ hb))
    obtain ⟨S', k1, k2, k3, k4⟩ := freeze t hp.2 R2 (OwnF.mono (h1.trans (same_upd a3)) t (fun _ _ _ h => h) ht) nd.2.2.1 (fun b hb => ⟨by
      rw [upd_ne (ne b hb), h4 b fun z => nd.2.2.2 b z b hb rfl]
      exact (ha b (List.mem_cons_of_mem _ (List.mem_append_right _ hb))).1, (ha b (List.mem_cons_of_mem _ (List.mem_append_right _ hb))).2⟩)
    refine ⟨S', (h1.trans (same_upd a3)).trans k1, k2, .cons (.tup (k1 _ _ upd_same) (h3.mono ((same_upd a3).trans k1))) k3, fun b hb => ?_⟩
    rw [k4 b fun z => hb (List.mem_cons_of_mem _ (List.mem_append_right _ (List.mem_append_right _ z))), upd_ne fun z => hb (by rw [z]; exact List.mem_cons_self), h4 b fun z => hb (List.mem_cons_of_mem _ (List.mem_append_right _ (List.mem_append_left _ z)))]
/-- nothing is told of a slot any more -/
theorem own_forget {i : Nat} {b : Addr} (h : OwnAt σ (ρ.set i .no) b) : OwnAt σ ρ b := by
  obtain ⟨m, s, hm, e⟩ := h
  rcases get_set hm.1 with ⟨rfl, q, _⟩ | ⟨n, q⟩
  · have := hm.2
    rw [q] at this
    cases this
  · exact ⟨m, s, ⟨q, hm.2⟩, e⟩
theorem Rel.forget {i : Nat} (h : Rel K B S H σ ρ) : Rel K B S H σ (ρ.set i .no) := by
  have get : ∀ {j : Nat} {s : Sl}, s ≠ .no → (ρ.set i .no)[j]? = some s → ρ[j]? = some s := fun {j s} n q => by
    rcases get_set q with ⟨rfl, q, _⟩ | ⟨_, q⟩
    · exact absurd q n
    · exact q
  have gow : ∀ {j : Nat} {s : Sl}, Ow (ρ.set i .no) j s → Ow ρ j s := fun {j s} q => ⟨get (fun z => by have := q.2; rw [z] at this; cases this) q.1, q.2⟩
  refine ⟨by rw [List.length_set]; exact h.len, h.sub, fun j x q => h.val j x (get (fun z => by cases z) q), fun j x q => h.own j x (get (fun z => by cases z) q), fun j k x q => ?_, fun j k s t b h1 h2 => h.sep j k s t b (gow h1) (gow h2), ⟨fun j k is q => h.vir.st j k is (get (fun z => by cases z) q), fun j k q => h.vir.al j k (get (fun z => by cases z) q), fun j C fs is a d us q e1 e2 => ?_⟩⟩
  · obtain ⟨b, ws, b1, b2, b3⟩ := h.ro j k x (get (fun z => by cases z) q)
    exact ⟨b, ws, b1, b2.to (fun o e _ => e) (fun _ z => own_forget z), b3⟩
  · obtain ⟨q1, q2⟩ := h.vir.dx j C fs is a d us (get (fun z => by cases z) q) e1 e2
    exact ⟨q1, fun z => q2 (own_forget z)⟩
def clr : List Nat → R → R
  | [], ρ => ρ
  | n :: ns, ρ => clr ns (ρ.set n .no)
theorem clr_len : ∀ {ns : List Nat} {ρ : R}, (clr ns ρ).length = ρ.length
  | [], _ => rfl
  | n :: ns, ρ => by rw [clr, clr_len, List.length_set]
theorem clr_out : ∀ {ns : List Nat} {ρ : R} {j : Nat}, j ∉ ns → (clr ns ρ)[j]? = ρ[j]?
  | [], _, _, _ => rfl
  | n :: ns, ρ, j, h => by rw [clr, clr_out fun z => h (List.mem_cons_of_mem _ z), List.getElem?_set_ne fun z => h (by rw [z]; exact List.mem_cons_self)]
theorem clr_ok : ∀ {ns : List Nat} {ρ : R}, Rel K B S H σ ρ → Rel K B S H σ (clr ns ρ) ∧ (∀ b, OwnAt σ (clr ns ρ) b → OwnAt σ ρ b) ∧ (∀ {H0 : Hp}, RoOld K S H0 σ ρ → RoOld K S H0 σ (clr ns ρ))
  | [], _, h => ⟨h, fun _ h => h, fun h => h⟩
  | n :: ns, ρ, h => by
    obtain ⟨h1, h2, h3⟩ := clr_ok (ns := ns) (h.forget (i := n))
    refine ⟨h1, fun b z => own_forget (h2 b z), fun {H0} hO => h3 fun j k xs q => ?_⟩
    rcases get_set q with ⟨rfl, q, _⟩ | ⟨_, q⟩
    · cases q
    · exact hO j k xs q
end
/-! ### judgements -/
section
variable {X : Cx} {f g : Fs} {e a : Expr} {es : List Expr} {pos p : Pos}
def PostX (X : Cx) (f : Fs) (σ : L2.St) (S H : Hp) (ρ : R) (Q : D → R → Prop) : VK := fun v H' => ∃ S' ρ' x as, Rel X.K (bd X) S' H' σ ρ' ∧ Ext σ S H ρ S' H' ρ' ∧ OwnF S' H' f [v] [x] as ∧ as.Nodup ∧ (∀ a ∈ as, H a = none ∧ S' a = none) ∧ Q x ρ'
def JX (X : Cx) (f : Fs) (e : Expr) (t : VE) : Prop := ∀ σ S H ρ Q, Rel X.K (bd X) S H σ ρ → t ρ Q → W X e σ H (PostX X f σ S H ρ Q)
abbrev VXs := R → (List D → R → Prop) → Prop
def PostXs (X : Cx) (f : Fs) (σ : L2.St) (S H : Hp) (ρ : R) (Q : List D → R → Prop) : List V → Hp → Prop := fun vs H' => ∃ S' ρ' xs as, Rel X.K (bd X) S' H' σ ρ' ∧ Ext σ S H ρ S' H' ρ' ∧ OwnF S' H' f vs xs as ∧ as.Nodup ∧ (∀ a ∈ as, H a = none ∧ S' a = none) ∧ Q xs ρ'
def JXs (X : Cx) (f : Fs) (es : List Expr) (t : VXs) : Prop := ∀ σ S H ρ Q, Rel X.K (bd X) S H σ ρ → t ρ Q → WAr X es σ H (PostXs X f σ S H ρ Q)
/-- a value, where something with parts is wanted -/
def tXV (t : VT) : VE := fun ρ Q => t ρ fun u ρ1 => match u with
  | .val d => Q d ρ1
  | _ => False
theorem jx_val {t : VT} (h : JT X e t) : JX X (.val .nil) e (tXV t) := by
  intro σ S H ρ Q hR ht
  refine (h σ S H ρ _ hR ht).mono fun v H1 q => ?_
  obtain ⟨S1, ρ1, u, R1, E1, d1, q1⟩ := q
  split at q1
  · rename_i d
    exact ⟨S1, ρ1, d, [], R1, E1, ⟨v, d, [], [], rfl, rfl, d1, rfl, rfl, rfl⟩, by simp, fun _ h => (by cases h), q1⟩
  · exact q1.elim
theorem jx_new {t : VE} (h : JN X e t) : JX X (.lst .nil) e t := by
  intro σ S H ρ Q hR ht
  refine (h σ S H ρ Q hR ht).mono fun v H1 q => ?_
  obtain ⟨S1, ρ1, c, vs, xs, R1, E1, rfl, hc, hcs, hcl, hd, q⟩ := q
  exact ⟨S1, ρ1, .list xs, [c], R1, E1, ⟨c, vs, xs, [], [], [], rfl, rfl, rfl, hcl, hd, rfl, rfl, rfl⟩, by simp, fun b hb => by rw [List.mem_singleton.mp hb]; exact ⟨hc, hcs⟩, q⟩
def tXNil : VXs := fun ρ Q => Q [] ρ
def tXCons (t : VE) (u : VXs) : VXs := fun ρ Q => t ρ fun x ρ1 => u ρ1 fun xs ρ2 => Q (x :: xs) ρ2
theorem jxs_nil : JXs X .nil [] tXNil := fun σ S H ρ Q hR ht => WAr.of pa_nil ⟨S, ρ, [], [], hR, .refl, ⟨rfl, rfl, rfl⟩, by simp, fun _ h => (by cases h), ht⟩
theorem jxs_cons {h : Fs} {t : VE} {u : VXs} (ha : JX X g e t) (hb : JXs X f es u) (hs : notStar e = true) (hh : g.app f = h) : JXs X h (e :: es) (tXCons t u) := by
  subst hh
  intro σ S H ρ Q hR ht
  refine WAr.of (pa_cons peW paW (star_cons hs)) ((ha σ S H ρ _ hR ht).mono fun v H1 q => ?_)
  obtain ⟨S1, ρ1, x, as, R1, E1, o1, n1, f1, q1⟩ := q
  refine (hb σ S1 H1 ρ1 _ R1 q1).mono fun vs H2 q => ?_
  obtain ⟨S2, ρ2, xs, bs, R2, E2, o2, n2, f2, q2⟩ := q
  have th := OwnF.there g o1
  have no : ∀ a ∈ as, ¬ OwnAt σ ρ1 a := fun a ha z => own_new hR (f1 a ha).1 (E1.at.mpr z)
  have o1' : OwnF S2 H2 g [v] [x] as := OwnF.mono E2.same g (fun a ha o h => E2.keep a o h (f1 a ha).2 (no a ha)) o1
  refine ⟨S2, ρ2, x :: xs, as ++ bs, R2, E1.trans E2, OwnF.app o2 g o1', List.nodup_append.mpr ⟨n1, n2, fun a ha b hb z => ?_⟩, fun a ha => ?_, q2⟩
  · exact th a ha (by rw [z]; exact (f2 b hb).1)
  · rcases List.mem_append.mp ha with h | h
    · exact ⟨(f1 a h).1, E2.stay a (th a h) (f1 a h).2⟩
    · refine ⟨?_, (f2 a h).2⟩
      cases e : H a with
      | none => rfl
      | some o => exact absurd (f2 a h).1 (E1.there a (by rw [e]; simp))
def tXD (k : SK) (t : VXs) : VE := fun ρ Q => t ρ fun xs ρ1 => xs.length ≤ sizeLine ∧ Q (k.d xs) ρ1
theorem ownF_len {S H : Hp} : ∀ (f : Fs) {vs : List V} {xs : List D} {as : List Addr}, OwnF S H f vs xs as → vs.length = xs.length
  | .nil, _, _, _, ⟨rfl, rfl, _⟩ => rfl
  | .val t, _, _, _, ⟨v, x, vs, xs, rfl, rfl, hv, ht⟩ => congrArg (· + 1) (ownF_len t ht)
  | .lst t, _, _, _, ⟨a, us, ds, vs, xs, as, rfl, rfl, e3, h1, h2, ht⟩ => congrArg (· + 1) (ownF_len t ht)
  | .pts q c t, _, _, _, ⟨a, us, ys, o, bs, vs, xs, as, rfl, rfl, e3, h1, h2, hc, ht⟩ => congrArg (· + 1) (ownF_len t ht)
theorem xd_core {k : Sq} {σ : L2.St} {S H S1 H1 : Hp} {ρ ρ1 : R} {vs : List V} {xs : List D} {as : List Addr} {n : Addr} {Q : D → R → Prop} (R1 : Rel X.K (bd X) S1 H1 σ ρ1) (E1 : Ext σ S H ρ S1 H1 ρ1) (o1 : OwnF S1 H1 f vs xs as) (n1 : as.Nodup) (f1 : ∀ a ∈ as, H a = none ∧ S1 a = none) (hn : H1 n = none) (q : Q (k.sk.d xs) ρ1) :
    PostX X (.pts k.sk f .nil) σ S H ρ Q (.ref n) (upd H1 n (k.mk vs)) := by
  have th := OwnF.there f o1
  have nn : ∀ {b : Addr}, H1 b ≠ none → b ≠ n := fun {b} h z => h (by rw [z]; exact hn)
  refine ⟨S1, ρ1, k.sk.d xs, n :: (SK.dx (k.mk vs) ++ (as ++ [])), R1.new0 hn, E1.trans (.new0 R1 hn), ⟨n, vs, xs, k.mk vs, as, [], [], [], rfl, rfl, rfl, upd_same, by cases k <;> rfl, OwnF.mono (Same.refl _) f (fun a ha o h => by rw [upd_ne (nn (th a ha))]; exact h) o1, rfl, rfl, rfl⟩, ?_, fun a ha => ?_, q⟩
  · have e : SK.dx (k.mk vs) = [] := by cases k <;> rfl
    rw [e, List.append_nil]
    exact List.nodup_cons.mpr ⟨fun z => th n z hn, n1⟩
  · have e : SK.dx (k.mk vs) = [] := by cases k <;> rfl
    rw [e, List.append_nil] at ha
    rcases List.mem_cons.mp ha with rfl | ha
    · exact ⟨E_none E1 hn, R1.sub.free hn⟩
    · exact f1 a ha
theorem jx_lst {t : VXs} (h : JXs X f es t) : JX X (.pts .lst f .nil) (.List es pos) (tXD .lst t) := by
  intro σ S H ρ Q hR ht
  refine W.of (pe_lst paW) ((h σ S H ρ _ hR ht).mono fun vs H1 q => ?_)
  obtain ⟨S1, ρ1, xs, as, R1, E1, o1, n1, f1, hz, q⟩ := q
  exact ⟨by rw [ownF_len f o1]; exact hz, fun n hn => xd_core (k := .lst) R1 E1 o1 n1 f1 hn q⟩
theorem jx_tup {x1 : Nat} {t : VXs} (h : JXs X f es t) : JX X (.pts .tup f .nil) (.Tuple es x1 pos) (tXD .tup t) := by
  intro σ S H ρ Q hR ht
  refine W.of (pe_tup paW) ((h σ S H ρ _ hR ht).mono fun vs H1 q => ?_)
  obtain ⟨S1, ρ1, xs, as, R1, E1, o1, n1, f1, hz, q⟩ := q
  exact ⟨by rw [ownF_len f o1]; exact hz, fun n hn => xd_core (k := .tup) R1 E1 o1 n1 f1 hn q⟩
theorem call_x {F : FSpec} {σ : L2.St} {S H H1 S2 H2 : Hp} {ρ ρ2 : R} {v : V} {r : D} {Q : D → R → Prop} (R2 : Rel X.K (bd X) S2 H2 σ ρ2) (E : Ext σ S H ρ S2 H2 ρ2) (th : ∀ b, H b ≠ none → H1 b ≠ none) (rr : ResR F.new H1 S2 H2 v r) (q : Q r ρ2) : PostX X F.new σ S H ρ Q v H2 := by
  obtain ⟨as, o1, n1, f1⟩ := rr
  refine ⟨S2, ρ2, r, as, R2, E, o1, n1, fun a ha => ⟨?_, (f1 a ha).2⟩, q⟩
  cases e : H a with
  | none => rfl
  | some o => exact absurd (f1 a ha).1 (th a (by rw [e]; simp))
theorem jx_call {lvl : Nat} {F : FSpec} {t : VA} (hr : Room lvl X.A) (k : Known X lvl F) (hg : Gl X F.name) (h : JA X (e :: es) t) (hs : (e :: es).all notStar = true) : JX X F.new (.Call (.Name F.name p) (e :: es) [] pos) (tCallF F t) := by
  intro σ S H ρ Q hR ht
  exact call_core hr k hg h hs hR ht fun v r H1 S2 H2 ρ2 R2 E th rr q => call_x R2 E th rr q
theorem jx_callG {lvl : Nat} {F : FSpec} {t : VA} (hr : Room lvl X.A) (hgd : X.A.guards = some []) (k : KnownG X.prog X.w X.K X.mg X.base lvl F) (hg : Gl X F.name) (h : JA X (e :: es) t) (hs : (e :: es).all notStar = true) : JX X F.new (.Call (.Name F.name p) (e :: es) [] pos) (tCallF F t) := by
  intro σ S H ρ Q hR ht
  exact call_coreG hr hgd k hg h hs hR ht fun v r H1 S2 H2 ρ2 R2 E th rr q => call_x R2 E th rr q
/-- as a value: nothing of it is changed later -/
theorem JX.fz {t : VE} (hp : f.plain = true) (h : JX X f e t) : JE X e t := by
  intro σ S H ρ Q hR ht
  refine (h σ S H ρ Q hR ht).mono fun v H1 q => ?_
  obtain ⟨S1, ρ1, x, as, R1, E1, o1, n1, f1, q⟩ := q
  obtain ⟨S2, h1, h2, h3, h4⟩ := freeze f hp R1 o1 n1 fun a ha => ⟨(f1 a ha).2, fun z => own_new hR (f1 a ha).1 (E1.at.mpr z)⟩
  cases h3 with
  | cons hv _ =>
    refine ⟨S2, ρ1, x, h2, ⟨E1.same.trans h1, E1.there, fun b hb h0 => ?_, E1.keep, E1.kind, E1.oth⟩, hv, q⟩
    rw [h4 b fun z => hb (f1 b z).1]
    exact E1.stay b hb h0
end
/-! ### statements -/
section
variable {X : Cx} {new f : Fs} {F : List Nat} {pos : Pos} {e : Expr}
theorem js_retX {t : VE} (h : JX X f e t) : JS X f F (.Return (some e) pos) (tRetN t) := by
  intro σ S H ρ Qn Qr hR ht
  refine WS.of (ps_ret peW) ((h σ S H ρ _ hR ht).mono fun v H1 q => ?_)
  obtain ⟨S1, ρ1, x, as, R1, E1, o1, n1, f1, q⟩ := q
  exact ⟨σ, S1, ρ1, x, R1, E1.xs, ⟨as, o1, n1, fun a ha => ⟨(f1 a ha).2, .inr (f1 a ha).1⟩⟩, q⟩
def xOk (ρ : R) (ns : List Nat) : Bool := noLean (clr ns ρ) ns && (ns.all fun m => decide (m < ρ.length))
def tAsgX (f : Fs) (ns : List Nat) (t : VE) : VS := fun ρ Qn _ => t ρ fun x ρ1 => xOk ρ1 ns = true ∧ Qn (putF f ns [x] (clr ns ρ1))
/-- all slots but the first n stand without a name -/
def virOk (X : Cx) (k : Nat) (ns : List Nat) : Bool := (ns.drop k).all fun m => invis X m
theorem put_core {σ : L2.St} {S H S1 H1 : Hp} {ρ ρ1 : R} {ns : List Nat} {vs : List V} {xs : List D} {as : List Addr} (hR : Rel X.K (bd X) S H σ ρ) (R1 : Rel X.K (bd X) S1 H1 σ ρ1) (E1 : Ext σ S H ρ S1 H1 ρ1) (o1 : OwnF S1 H1 f vs xs as) (n1 : as.Nodup) (f1 : ∀ a ∈ as, H a = none ∧ S1 a = none)
    (hok : xOk ρ1 ns = true) (hsz : f.size ≤ ns.length) (hokf : okF (bd X) f ns = true) (hnd : ns.Nodup) (hF : (ns.all fun m => !F.contains m) = true) :
    ∃ σ', Rel X.K (bd X) S1 H1 σ' (putF f ns xs (clr ns ρ1)) ∧ XS F σ S H ρ σ' S1 H1 (putF f ns xs (clr ns ρ1)) ∧ Paired (fun (v : V) (m : Nat) => σ'[m]? = some (some v)) vs (f.roots ns) ∧ (∀ m, m ∉ ns → σ'[m]? = σ[m]?) ∧ σ'.length = σ.length := by
  rw [xOk, Bool.and_eq_true] at hok
  obtain ⟨c1, c2, c3⟩ := clr_ok (ns := ns) R1
  have no : ∀ a ∈ as, ¬ OwnAt σ (clr ns ρ1) a := fun a ha z => own_new hR (f1 a ha).1 (E1.at.mpr (c2 a z))
  obtain ⟨σ', p⟩ := forest_ok f c1 (c3 (RoOld.of hR E1)) o1 n1 (fun a ha => ⟨(f1 a ha).1, (f1 a ha).2, no a ha⟩) hnd hok.1 (fun m hm => by rw [clr_len]; exact of_decide_eq_true (List.all_eq_true.mp hok.2 m hm)) hsz hokf
  have hFm : ∀ j ∈ F, j ∉ ns := fun j hj z => by
    have := List.all_eq_true.mp hF j z
    rw [List.contains_iff_mem.mpr hj] at this
    cases this
  have out : ∀ m, m ∉ ns → σ'[m]? = σ[m]? ∧ (putF f ns xs (clr ns ρ1))[m]? = ρ1[m]? := fun m hm => by
    obtain ⟨q1, q2⟩ := p.out m fun z => hm (List.mem_of_mem_take z)
    exact ⟨q1, by rw [q2, clr_out hm]⟩
  refine ⟨σ', p.rel, ⟨E1.same, E1.there, fun b h h' _ => E1.stay b h h', E1.keep, fun b z => ?_, fun j hj => (out j (hFm j hj)).1, fun j hj h => ?_⟩, p.at_, fun m hm => (out m hm).1, by rw [p.rel.len, p.len, clr_len, ← R1.len]⟩
  · rcases p.own b z with z | z
    · exact .inl (E1.at.mpr (c2 b z))
    · exact .inr (f1 b z).1
  · rw [(out j (hFm j hj)).2]
    exact (E1.kind j).mp h
theorem js_setX {i : Nat} {ns : List Nat} {x : Str} {pos' : Pos} {k : SK} {c : Fs} {t : VE} (nd : X.N.Nodup) (hn : Sn X i x) (hv : virOk X 1 (i :: ns) = true) (hok : okF (bd X) (.pts k c .nil) (i :: ns) = true) (hsz : decide ((Fs.pts k c .nil).size ≤ (i :: ns).length) = true) (hnd : decide (i :: ns).Nodup = true) (hF : ((i :: ns).all fun m => !F.contains m) = true)
    (h : JX X (.pts k c .nil) e t) (hs : swapsWith e (some (.Name x pos')) pos.line X.env = pure false) : JS X new F (.Assign [.Name x pos'] e pos) (tAsgX (.pts k c .nil) (i :: ns) t) := by
  intro σ S H ρ Qn Qr hR ht
  refine WS.vir (WS.of (ps_set nd hn.n hn.l peW hs hn.f) ((h σ S H ρ _ hR ht).mono fun v H1 q => ?_))
  obtain ⟨S1, ρ1, y, as, R1, E1, o1, n1, f1, hx, q⟩ := q
  have hnd := of_decide_eq_true hnd
  obtain ⟨σ', R', X', at', out, hlen⟩ := put_core (F := F) hR R1 E1 o1 n1 f1 hx (of_decide_eq_true hsz) hok hnd hF
  have hi : i < σ.length := by
    rw [hR.len]
    rw [xOk, Bool.and_eq_true] at hx
    have := of_decide_eq_true (List.all_eq_true.mp hx.2 i List.mem_cons_self)
    rw [← R1.len, hR.len] at this
    exact this
  have e1 : σ'[i]? = some (some v) := by
    cases at' with
    | cons r _ => exact r
  refine ⟨σ', ⟨by rw [List.length_set]; exact hlen, fun j y hj hvis => ?_⟩, S1, _, R', X', q⟩
  · by_cases z : j = i
    · rw [z, e1, List.getElem?_set_self hi]
    · have hj' : j ∉ i :: ns := fun hm => by
        rcases List.mem_cons.mp hm with hm | hm
        · exact z hm
        · have hi := List.all_eq_true.mp hv j hm
          unfold invis at hi
          rw [hj] at hi
          have hi : X.env.scope.names.lookup y = none := Option.isNone_iff_eq_none.mp hi
          rcases hvis with q | q | q <;> (rw [hi] at q; cases q)
      rw [out j hj', List.getElem?_set_ne fun q => z q.symm]
end
end WA

/-! WA23: isinstance and len of a thing made of parts, text.count, names = a new thing. -/
namespace WA
open PySem PySem.Spec PyProof.Rows L2
section
variable {X : Cx} {pos p : Pos} {a b e : Expr} {ta tb : VT} {tp : PSl}
/-- the kind and the number of the parts -/
def stD (ρ : R) (m : Nat) : Option (Bool × Nat) := match ρ[m]? with
  | some (.st .lst is) => some (true, is.length)
  | some (.st .tup is) => some (false, is.length)
  | _ => none
def tIsiP (t : Ty) (tp : PSl) : VE := fun ρ Q => match tp ρ with
  | some m => match stD ρ m with
    | some (true, _) => Q (.bool (isiD t (.list []))) ρ
    | some (false, _) => Q (.bool (isiD t (.tuple []))) ρ
    | none => False
  | none => False
theorem je_isiP {t : Ty} {p2 : Pos} (hg : Gl X "isinstance") (hm : X.mg "isinstance" = none) (hg2 : Gl X t.name) (hm2 : X.mg t.name = none) (ha : JP X a tp) (hs : notStar a = true) : JE X (.Call (.Name "isinstance" p) [a, .Name t.name p2] [] pos) (tIsiP t tp) := by
  intro σ S H ρ Q hR ht
  unfold tIsiP at ht
  split at ht
  · rename_i m em
    refine W.of (pe_callB (id := "isinstance") clW hg hm (by decide +kernel) (pa_cons peW (pa_cons (pe_bltn (v := .ty t.s) hg2 hm2 t.boot rfl t.nn t.nd) pa_nil) (star_cons hs)) (by decide) (by decide) (star_cons hs) rfl) ((ha σ S H ρ m hR em).mono fun v H1 q => ?_)
    obtain ⟨rfl, hv⟩ := q
    unfold stD at ht
    split at ht
    · rename_i e1
      split at e1
      · rename_i is e2
        cases e1
        obtain ⟨c, vs, o, g1, g2, g3, g4, g5⟩ := hR.vir.st m _ is e2
        rw [hv] at g1
        cases g1
        cases g4
        exact WCl.of call_isi ⟨_, .ty t.s, _, _, _, rfl, .ty _, .base (.lst g3), isi_kit t "list" (.inr (.inr (.inr (.inr (.inl rfl))))), S, ρ, _, hR, .refl, .bl _, ht⟩
      · cases e1
      · cases e1
    · rename_i e1
      split at e1
      · cases e1
      · rename_i is e2
        cases e1
        obtain ⟨c, vs, o, g1, g2, g3, g4, g5⟩ := hR.vir.st m _ is e2
        rw [hv] at g1
        cases g1
        cases g4
        exact WCl.of call_isi ⟨_, .ty t.s, _, _, _, rfl, .ty _, .base (.tup g3), isi_kit t "tuple" (.inr (.inr (.inr (.inr (.inr rfl))))), S, ρ, _, hR, .refl, .bl _, ht⟩
      · cases e1
    · exact ht.elim
  · exact ht.elim
def tLenP (tp : PSl) : VE := fun ρ Q => match tp ρ with
  | some m => match stD ρ m with
    | some (_, n) => Q (.int n) ρ
    | none => False
  | none => False
theorem je_lenP (hg : Gl X "len") (hm : X.mg "len" = none) (ha : JP X a tp) (hs : notStar a = true) : JE X (.Call (.Name "len" p) [a] [] pos) (tLenP tp) := by
  intro σ S H ρ Q hR ht
  unfold tLenP at ht
  split at ht
  · rename_i m em
    refine W.of (pe_callB (id := "len") clW hg hm (by decide +kernel) (pa_cons peW pa_nil (star_cons hs)) (by decide) (by decide) (star_cons hs) rfl) ((ha σ S H ρ m hR em).mono fun v H1 q => ?_)
    obtain ⟨rfl, hv⟩ := q
    split at ht
    · rename_i k n e1
      unfold stD at e1
      split at e1
      · rename_i is e2
        cases e1
        obtain ⟨c, vs, o, g1, g2, g3, g4, g5⟩ := hR.vir.st m _ is e2
        rw [hv] at g1
        cases g1
        cases g4
        exact WCl.of call_len_seq ⟨c, vs, rfl, .inl (SqL.of g3), by rw [paired_len g5]; exact ⟨S, ρ, _, hR, .refl, .int _, ht⟩⟩
      · rename_i is e2
        cases e1
        obtain ⟨c, vs, o, g1, g2, g3, g4, g5⟩ := hR.vir.st m _ is e2
        rw [hv] at g1
        cases g1
        cases g4
        exact WCl.of call_len_seq ⟨c, vs, rfl, .inr (.of g3), by rw [paired_len g5]; exact ⟨S, ρ, _, hR, .refl, .int _, ht⟩⟩
      · cases e1
    · exact ht.elim
  · exact ht.elim
/-! ### text.count(text) -/
def tCntS (ta tb : VT) : VE := fun ρ Q => ta ρ fun u ρ1 => ∃ x, u = .val (.str x) ∧ tb ρ1 fun w ρ2 => match w with
  | .val (.str y) => Q (.int (Txt.count x y)) ρ2
  | _ => False
theorem je_cnt {apos : Pos} (ha : JT X a ta) (hb : JT X b tb) (hs : notStar b = true) (hba : attributeBase a "count" X.env (eval a X.env) = eval a X.env) (hl : (apos.endLine == pos.line) = true) : JE X (.Call (.Attribute a "count" apos) [b] [] pos) (tCntS ta tb) := by
  intro σ S H ρ Q hR ht
  refine W.of (pe_m1 F.slot_str_count F.type_str_count mt_count peW peW (star_cons hs) hba hl) ((ha σ S H ρ _ hR ht).mono fun v H1 q => ?_)
  obtain ⟨S1, ρ1, u, R1, E1, d1, z0, rfl, q1⟩ := q
  have ev : v = .str z0 := by cases d1; rfl
  refine ⟨⟨z0, ev⟩, (hb σ S1 H1 ρ1 _ R1 q1).mono fun w H2 q => ?_⟩
  obtain ⟨S2, ρ2, t, R2, E2, d2, q2⟩ := q
  split at q2
  · rename_i y
    have ew : w = .str y := by cases d2; rfl
    exact ⟨z0, y, ev, by rw [ew], S2, ρ2, _, R2, E1.trans E2, .int _, q2⟩
  · exact q2.elim
end
/-! ### xs.remove(text) -/
section
variable {X : Cx} {pos p : Pos} {a : Expr} {ta : VT}
theorem strOf_at (k : Str) : ∀ {vs : List Value} {ns : List Str}, StrsAre vs ns → ∀ (i : Nat) (h : i < vs.length), isStrOf k vs[i] = true ↔ ns[i]? = some k
  | _, _, .nil, i, h => absurd h (by simp)
  | _, _, .cons n t hr, 0, _ => by
    show (n == k) = true ↔ some n = some k
    rw [beq_iff_eq, Option.some_inj]
  | _, _, .cons n t hr, i + 1, h => strOf_at k hr i (Nat.lt_of_succ_lt_succ h)
theorem strs_len : ∀ {vs : List Value} {ns : List Str}, StrsAre vs ns → vs.length = ns.length
  | _, _, .nil => rfl
  | _, _, .cons _ _ h => congrArg (· + 1) (strs_len h)
theorem first_of : ∀ {ns : List Str} {k : Str}, k ∈ ns → ∃ j, j < ns.length ∧ ns[j]? = some k ∧ (∀ i, i < j → ns[i]? ≠ some k) ∧ ns.eraseIdx j = ns.erase k
  | [], k, h => absurd h (by simp)
  | a :: r, k, h => by
    by_cases e : a = k
    · refine ⟨0, Nat.succ_pos _, by rw [e]; rfl, fun i hi => absurd hi (Nat.not_lt_zero _), ?_⟩
      rw [e, List.erase_cons_head]; rfl
    · have hr : k ∈ r := by
        rcases List.mem_cons.mp h with z | z
        · exact absurd z.symm e
        · exact z
      obtain ⟨j, h1, h2, h3, h4⟩ := first_of hr
      refine ⟨j + 1, Nat.succ_lt_succ h1, h2, fun i hi => ?_, ?_⟩
      · cases i with
        | zero =>
          intro z
          exact e (Option.some.inj z)
        | succ i => exact h3 i (Nat.lt_of_succ_lt_succ hi)
      · rw [List.erase_cons_tail (by rw [beq_iff_eq]; exact e), ← h4]; rfl
def rRemS : V → List V → Hp → VK → Prop := fun x vs H Q => ∃ (l : Addr) (ns : List Str) (k : Str), x = .ref l ∧ vs = [.str k] ∧ H l = some (.lst (ns.map V.str)) ∧ k ∈ ns ∧ Q .non (upd H l (.lst ((ns.erase k).map V.str)))
theorem mt_remS : MtM X "list.remove" rRemS := by
  intro pins s σ H x vs v us Q I rx rv h
  obtain ⟨l, ns, k, rfl, rfl, hH, hk, q⟩ := h
  cases rx
  obtain ⟨u, rfl, ru⟩ := rv.one
  obtain ⟨t, rfl⟩ := ru
  obtain ⟨z, its, n, r, hl, e0⟩ := I.lstM hH
  have hi : StrsAre its ns := strs_of_vals r
  have heq := eq_isStrOf k t hi
  have hnl := strs_len hi
  have hsz : its.toArray.size ≤ sizeLine := by rw [List.size_toArray, ← hl]; exact z
  obtain ⟨j, j1, j2, j3, j4⟩ := first_of hk
  have hj : j < its.length := by omega
  refine call_meets PySem.F.slot_list_remove ⟨_, e0, rfl⟩ PySem.F.entry_list_remove (PySem.F.args_list_remove_2 _ _)
    (MeetsSeq.list_remove l its.toArray n (.str k t) (isStrOf k) (fun y hy => heq y (by simpa using hy)) j (by rw [List.size_toArray]; exact hj) ?hit (fun i hi2 hlt => ?hno) hsz) ⟨e0, ?_⟩
  case hit =>
    show isStrOf k its[j] = true
    exact (strOf_at k hi j hj).mpr j2
  case hno =>
    have hi3 : i < its.length := by rw [List.size_toArray] at hi2; exact hi2
    show isStrOf k its[i] = false
    rw [Bool.eq_false_iff]
    intro w
    exact j3 i hlt ((strOf_at k hi i hi3).mp w)
  have me : ∀ (ns : List Str) (j : Nat), (ns.map V.str).eraseIdx j = (ns.eraseIdx j).map V.str := fun ns => by
    induction ns with
    | nil => intro j; rfl
    | cons a r ih =>
      intro j
      cases j with
      | zero => rfl
      | succ j =>
        show V.str a :: (r.map V.str).eraseIdx j = V.str a :: (r.eraseIdx j).map V.str
        rw [ih j]
  have r2 : Vals ((ns.erase k).map V.str) (its.eraseIdx j) := by
    have w := r.eraseIdx j
    rw [me, j4] at w
    exact w
  refine ⟨.non, _, I.lset (its' := its.eraseIdx j) hH e0 ?_ r2 ?_, rfl, q⟩
  · show its.toArray.eraseIdxIfInBounds j = (its.eraseIdx j).toArray
    rw [List.eraseIdxIfInBounds_toArray]
  · rw [List.length_map]
    have := List.length_erase_le (a := k) (l := ns)
    rw [List.length_map] at z
    omega
def tRem (i : Nat) (te : VT) : VE := fun ρ Q => isOwn ρ i ∧ te ρ fun u ρ1 => match u, ρ1[i]? with
  | .val (.str k), some (.own xs) => ∃ ss : List Str, xs = ss.map PyData.str ∧ k ∈ ss ∧ Q .none (ρ1.set i (.own ((ss.erase k).map PyData.str)))
  | _, _ => False
theorem je_rem {i : Nat} {x : Str} {apos : Pos} (hn : Nm X i x) (ha : JT X a ta) (hs : notStar a = true) (hl : (apos.endLine == pos.line) = true) : JE X (.Call (.Attribute (.Name x p) "remove" apos) [a] [] pos) (tRem i ta) := by
  intro σ S H ρ Q hR ht
  obtain ⟨⟨zs, hz⟩, ht⟩ := ht
  obtain ⟨l, ws, l1, l2, l3, l4⟩ := hR.own i zs hz
  refine W.of (pe_bm PySem.F.plainAttrs_list PySem.F.slot_list_remove PySem.F.type_list_remove mt_remS hn.pe (pa_cons peW pa_nil (star_cons hs)) rfl (few1 hs) hl (star_cons hs) rfl) ?_
  refine ⟨.ref l, l1, .inl ⟨rfl, _, SqL.of l3⟩, (ha σ S H ρ _ hR ht).mono fun v H1 q => ?_⟩
  obtain ⟨S1, ρ1, u, R1, E1, d1, q1⟩ := q
  split at q1
  · rename_i k xs e
    obtain ⟨ss, rfl, hk, q1⟩ := q1
    obtain ⟨b, vs, b1, b2, b3, b4⟩ := R1.own i _ e
    rw [l1] at b1
    cases b1
    have ev : v = .str k := by cases d1; rfl
    have evs := rps_strs b4
    subst evs
    exact ⟨l, ss, k, rfl, by rw [ev], b3, hk, S1, _, .none, R1.put e l1 (rps_of_strs _), E1.trans (.put R1 e l1), .non, q1⟩
  · exact q1.elim
end
end WA

/-! WP1: words as lists of signs; all_words. -/
namespace WA
open PySem PySem.Spec PyProof.Rows L2
/-- a word, by its signs -/
def wd (l : List Nat) : Str := ⟨(l.map (· + 48)).toArray⟩
def sw (l : List Nat) : D := .str (wd l)
theorem wd_nil : wd [] = ("" : Str) := by decide
theorem wd_len (l : List Nat) : (wd l).length = l.length := by simp [wd, Str.length]
theorem wd_cps (l : List Nat) : (wd l).cps.toList = l.map (· + 48) := by simp [wd]
theorem wd_app (a b : List Nat) : wd a ++ wd b = wd (a ++ b) := by
  show (⟨(wd a).cps ++ (wd b).cps⟩ : Str) = wd (a ++ b)
  unfold wd
  simp
theorem wd_inj {a b : List Nat} (h : wd a = wd b) : a = b := by
  have e : (wd a).cps.toList = (wd b).cps.toList := by rw [h]
  rw [wd_cps, wd_cps] at e
  exact (List.map_inj_right (fun x y h => by omega)).mp e
theorem sw_inj {a b : List Nat} (h : sw a = sw b) : a = b := by
  unfold sw at h
  exact wd_inj (PyData.str.inj h)
theorem sign_str {d : Nat} (h : d < 10) : ((toString (d : Int) : String) : Str) = wd [d] := by
  have : d = 0 ∨ d = 1 ∨ d = 2 ∨ d = 3 ∨ d = 4 ∨ d = 5 ∨ d = 6 ∨ d = 7 ∨ d = 8 ∨ d = 9 := by omega
  rcases this with rfl | rfl | rfl | rfl | rfl | rfl | rfl | rfl | rfl | rfl <;> decide +kernel
/-- all words of a length -/
def allL (q : Nat) : Nat → List (List Nat)
  | 0 => [[]]
  | n + 1 => (allL q n).flatMap fun w => (List.range q).map fun s => w ++ [s]
theorem allL_len (q : Nat) : ∀ n, (allL q n).length = q ^ n
  | 0 => rfl
  | n + 1 => by
    unfold allL
    rw [List.length_flatMap]
    simp only [List.length_map, List.length_range]
    rw [List.map_const', List.sum_replicate_nat, allL_len q n, Nat.pow_succ]
theorem allL_wlen (q : Nat) : ∀ n, ∀ w ∈ allL q n, w.length = n
  | 0, w, h => by
    have : w = [] := by simpa [allL] using h
    rw [this]; rfl
  | n + 1, w, h => by
    unfold allL at h
    obtain ⟨v, hv, h⟩ := List.mem_flatMap.mp h
    obtain ⟨s, _, rfl⟩ := List.mem_map.mp h
    rw [List.length_append, allL_wlen q n v hv]
    rfl
def szOk (q n : Nat) : Prop := (q = 2 ∧ n ≤ 8) ∨ (q = 3 ∧ n ≤ 5)
theorem pow_le {q n : Nat} (h : szOk q n) : q ^ n ≤ 256 := by
  rcases h with ⟨rfl, h⟩ | ⟨rfl, h⟩
  · exact Nat.le_trans (Nat.pow_le_pow_right (by decide) h) (by decide)
  · exact Nat.le_trans (Nat.pow_le_pow_right (by decide) h) (by decide)
theorem szOk.q3 {q n : Nat} (h : szOk q n) : q ≤ 3 := by rcases h with ⟨rfl, _⟩ | ⟨rfl, _⟩ <;> decide
theorem szOk.q2 {q n : Nat} (h : szOk q n) : 2 ≤ q := by rcases h with ⟨rfl, _⟩ | ⟨rfl, _⟩ <;> decide
theorem szOk.n8 {q n : Nat} (h : szOk q n) : n ≤ 8 := by rcases h with ⟨rfl, h⟩ | ⟨rfl, h⟩ <;> omega
theorem szOk.le {q n m : Nat} (h : szOk q n) (hm : m ≤ n) : szOk q m := by
  rcases h with ⟨rfl, h⟩ | ⟨rfl, h⟩
  · exact .inl ⟨rfl, by omega⟩
  · exact .inr ⟨rfl, by omega⟩
theorem sl1000 : 1000 ≤ sizeLine := by decide
def f_all_words : FSpec := ⟨"all_words", [.val, .val], true, fun xs => ∃ q n : Nat, xs = [.int q, .int n] ∧ szOk q n, fun xs r yss => ∀ q n : Nat, xs = [.int q, .int n] → r = .list ((allL q n).map sw) ∧ yss = []⟩
/-! all_words: 0 q, 1 n, 2 found, 3 place, 4 more, 5 word, 6 sign -/
def t_all_words : VS := (tSCons (tAsgO 2 (tLstD (tACons (vT (tcon (.str ""))) tANil)))
    (tSCons (tFor [] (.one 3) (tRng1 (tvar 1)) (tSCons (tAsgO 4 (tLstD tANil))
    (tSCons (tFor [2] (.one 5) (tIt (tvar 2)) (tSCons (tExp (vT (tXtd 4 (vT (tLcV (.one 6) (tRng1 (tvar 0)) tYesV (vT (tBin .add (tvar 5) (vT (tBlt .str (tACons (tvar 6) tANil))))))))))
    tSNil))
    (tSCons (tMv true [] 2 4)
    tSNil))))
    (tSCons (tRetO [] 2)
    tSNil)))

theorem sign_log {d : Nat} (h : d < 10) : ((d : Nat) : Int).natAbs.log2 < 1920 := by
  rw [Int.natAbs_natCast]
  have : d.log2 ≤ d := Nat.log2_le_self d
  omega
theorem wd_fit {a b : List Nat} (h : a.length + b.length ≤ 1000) : (wd a).length + (wd b).length ≤ sizeLine := by
  rw [wd_len, wd_len]
  have := sl1000
  omega
theorem len_le {α : Type} {l : List α} {n : Nat} (h : l.length = n) (h2 : n ≤ 1000) : l.length ≤ sizeLine := by
  have := sl1000
  omega
theorem pre_len {q k : Nat} {p r : List (List Nat)} {w : List Nat} (he : allL q k = p ++ w :: r) : (p.flatMap fun w => (List.range q).map fun s => w ++ [s]).length + q ≤ q ^ (k + 1) := by
  have h := allL_len q (k + 1)
  unfold allL at h
  rw [he, List.flatMap_append, List.flatMap_cons, List.length_append, List.length_append, List.length_map, List.length_range] at h
  omega
theorem plain_all_words : Plain f_all_words 7 t_all_words := by
  rintro xs ρ ⟨q, n, rfl, hs⟩ hi
  cases hi
  have hq := hs.q3
  have hn := hs.n8
  refine ⟨by decide, by omega, by omega, rfl, ?_⟩
  refine for_rng0 (fun k ρ => ∃ s3 s4 s5, ρ = [.v (.int q), .v (.int n), .own ((allL q k).map sw), s3, s4, s5, .no]) ⟨.no, .no, .no, rfl⟩ (fun _ _ _ => guard_nil) (fun k ρ K hk hI hK => ?_) (fun ρ hI => ?_)
  · obtain ⟨s3, s4, s5, rfl⟩ := hI
    have hpow := pow_le (hs.le (m := k + 1) hk)
    refine ⟨_, rfl, by decide, rfl, ?_⟩
    refine for_all (fun w => [sw w]) (allL q k) (fun p ρ => ∃ s5, ρ = [.v (.int q), .v (.int n), .own ((allL q k).map sw), .v (.int (k : Nat)), .own ((p.flatMap fun w => (List.range q).map fun s => w ++ [s]).map sw), s5, .no]) (by simp) ⟨s5, rfl⟩ (fun p ρ h => ?_) (fun p w r ρ K' he hI hK' => ?_) (fun ρ hI => ?_)
    · obtain ⟨s5, rfl⟩ := h
      exact guard_one rfl
    · obtain ⟨s5, rfl⟩ := hI
      have hw : w ∈ allL q k := by rw [he]; simp
      have hwl := allL_wlen q k w hw
      refine ⟨_, rfl, ⟨_, rfl⟩, by omega, by omega, rfl, rfl, ?_⟩
      refine lc_map (fun i : Nat => [PyData.int (i : Nat)]) (fun s => sw (w ++ [s])) (List.range q) (rng0 q) guard_nil (fun a ha => ?_) (len_le List.length_range (by omega)) ?_
      · have ha := List.mem_range.mp ha
        refine ⟨_, rfl, rfl, fun K2 k2 => ⟨sign_log (by omega), ?_, ?_⟩⟩
        · rw [sign_str (by omega)]
          exact wd_fit (by simp only [List.length_singleton]; omega)
        · show K2 (.val (.str (wd w ++ ((toString (a : Int) : String) : Str)))) _
          rw [sign_str (by omega), wd_app]
          exact k2
      · refine ⟨rfl, ?_, hK' _ ⟨.v (sw w), ?_⟩⟩
        · have := pre_len he
          have := sl1000
          simp only [List.length_map, List.length_range]
          omega
        · rw [List.flatMap_append]
          simp [List.set, backR, wipeR, Tg.ix, sw]
    · obtain ⟨s5, rfl⟩ := hI
      exact ⟨rfl, hK _ ⟨_, .no, s5, rfl⟩⟩
  · obtain ⟨s3, s4, s5, rfl⟩ := hI
    refine ⟨rfl, [], fun q' n' e => ?_, .nil⟩
    cases e
    exact ⟨rfl, rfl⟩
/-! ### comparing -/
def okD : D → Bool
  | .none => true
  | .bool _ => true
  | .int _ => true
  | .str x => PyData.strOk x
  | _ => false
theorem okD_lay : ∀ {x : D}, okD x = true → PyData.canLay0 x = true ∧ PyData.depth x = 0
  | .none, _ => ⟨rfl, rfl⟩
  | .bool _, _ => ⟨rfl, rfl⟩
  | .int _, _ => ⟨rfl, rfl⟩
  | .str x, h => ⟨h, rfl⟩
theorem flat_lay : ∀ {xs : List D}, (∀ x ∈ xs, okD x = true) → PyData.canLayAll0 xs = true ∧ PyData.depthAll xs = 0
  | [], _ => ⟨rfl, rfl⟩
  | x :: xs, h => by
    obtain ⟨a, b⟩ := okD_lay (h x List.mem_cons_self)
    obtain ⟨c, d⟩ := flat_lay (xs := xs) fun y hy => h y (List.mem_cons_of_mem _ hy)
    refine ⟨?_, ?_⟩
    · show (PyData.canLay0 x && PyData.canLayAll0 xs) = true
      rw [a, c]
      rfl
    · show max (PyData.depth x) (PyData.depthAll xs) = 0
      rw [b, d]
      rfl
theorem shaped_list {xs : List D} (h : ∀ x ∈ xs, okD x = true) : SeqAt.shaped (.list xs) = true := by
  obtain ⟨a, b⟩ := flat_lay h
  show (PyData.canLayAll0 xs && decide (PyData.depthAll xs + 1 ≤ 64)) = true
  rw [a, b]
  rfl
theorem shaped_tup {xs : List D} (h : ∀ x ∈ xs, okD x = true) : SeqAt.shaped (.tuple xs) = true := by
  obtain ⟨a, b⟩ := flat_lay h
  show (PyData.canLayAll0 xs && decide (PyData.depthAll xs + 1 ≤ 64)) = true
  rw [a, b]
  rfl
theorem eqOk_list {xs ys : List D} (h : ∀ x ∈ xs, okD x = true) (h' : ∀ x ∈ ys, okD x = true) : eqOk (.list xs) (.list ys) = true := by
  show (false || (SeqAt.shaped (.list xs) && SeqAt.shaped (.list ys))) = true
  rw [shaped_list h, shaped_list h']
  rfl
theorem okD_ints {ns : List Int} : ∀ x ∈ ns.map PyData.int, okD x = true := fun x hx => by
  obtain ⟨i, _, rfl⟩ := List.mem_map.mp hx
  rfl
/-- signs below q -/
def Sg (q : Nat) (w : List Nat) : Prop := ∀ s ∈ w, s < q
theorem strOk_wd {q : Nat} {w : List Nat} (hq : q ≤ 10) (h : Sg q w) : PyData.strOk (wd w) = true := by
  unfold PyData.strOk
  rw [Array.all_eq_true_iff_forall_mem]
  intro x hx
  have hx : x ∈ (wd w).cps.toList := by simpa using hx
  rw [wd_cps] at hx
  obtain ⟨s, hs, rfl⟩ := List.mem_map.mp hx
  have := h s hs
  rw [decide_eq_true_eq]
  omega
theorem okD_sws {q : Nat} {ls : List (List Nat)} (hq : q ≤ 10) (h : ∀ w ∈ ls, Sg q w) : ∀ x ∈ ls.map sw, okD x = true := fun x hx => by
  obtain ⟨w, hw, rfl⟩ := List.mem_map.mp hx
  exact strOk_wd hq (h w hw)
theorem eqvAll_map {α : Type} [DecidableEq α] {f : α → D} (hf : ∀ a b, PyData.eqv (f a) (f b) = decide (a = b)) : ∀ xs ys : List α, PyData.eqvAll (xs.map f) (ys.map f) = decide (xs = ys)
  | [], [] => rfl
  | [], _ :: _ => rfl
  | _ :: _, [] => rfl
  | x :: xs, y :: ys => by
    show (PyData.eqv (f x) (f y) && PyData.eqvAll (xs.map f) (ys.map f)) = _
    rw [hf, eqvAll_map hf xs ys]
    by_cases e : x = y
    · subst e
      by_cases e2 : xs = ys
      · subst e2; simp
      · simp [e2]
    · simp [e]
theorem eqv_int (a b : Int) : PyData.eqv (.int a) (.int b) = decide (a = b) := by
  show (a == b) = _
  by_cases e : a = b
  · subst e; simp
  · simp [e]
theorem eqv_str (a b : Str) : PyData.eqv (.str a) (.str b) = decide (a = b) := by
  show (a == b) = _
  by_cases e : a = b
  · subst e; simp
  · simp [e]
theorem eqv_sw (a b : List Nat) : PyData.eqv (sw a) (sw b) = decide (a = b) := by
  unfold sw
  rw [eqv_str]
  by_cases e : a = b
  · subst e; simp
  · have : ¬ wd a = wd b := fun z => e (wd_inj z)
    simp [e, this]
theorem eqv_sws (a b : List (List Nat)) : PyData.eqv (.list (a.map sw)) (.list (b.map sw)) = decide (a = b) := eqvAll_map eqv_sw a b
theorem eqv_ints (a b : List Int) : PyData.eqv (.list (a.map .int)) (.list (b.map .int)) = decide (a = b) := eqvAll_map eqv_int a b
theorem allL_sg (q : Nat) : ∀ n, ∀ w ∈ allL q n, Sg q w
  | 0, w, h => by
    have : w = [] := by simpa [allL] using h
    rw [this]
    exact fun _ z => absurd z (by simp)
  | n + 1, w, h => by
    unfold allL at h
    obtain ⟨v, hv, h⟩ := List.mem_flatMap.mp h
    obtain ⟨s, hs, rfl⟩ := List.mem_map.mp h
    intro z hz
    rcases List.mem_append.mp hz with q' | q'
    · exact allL_sg q n v hv z q'
    · rw [List.mem_singleton.mp q']
      exact List.mem_range.mp hs
end WA

/-! WL1: what the laws draw. -/
namespace WA
open PySem PySem.Spec PyProof.Rows L2
theorem cut_to {α : Type} (xs : List α) (k : Nat) : cutD xs none (some (k : Int)) = xs.take k := by
  unfold cutD
  rw [HT.sIx_none, HT.sIx_nat]
  simp only [List.drop_zero, Nat.sub_zero]
  rw [List.take_eq_take_iff]
  omega
theorem map_at {cs : List Int} {k : Int} (h0 : 0 ≤ k) (h : k < cs.length) : ∃ c, atI (cs.map PyData.int) k = some (.int c) ∧ cs[k.toNat]? = some c := by
  obtain ⟨j, rfl⟩ := Int.eq_ofNat_of_zero_le h0
  have hj : j < cs.length := by simpa using h
  refine ⟨cs[j], atI_nat ?_, by simp [hj]⟩
  rw [List.getElem?_map, List.getElem?_eq_getElem hj]
  rfl
theorem map_at0 (c : Int) (cs : List Int) : atI ((c :: cs).map PyData.int) 0 = some (.int c) := atI_nat (j := 0) rfl
/-- numbers that are drawn -/
def Drawn (ds : List Int) : Prop := ∀ d ∈ ds, 0 ≤ d ∧ d < 2147483587
def f__law_draws : FSpec := ⟨"_law_draws", [.ro, .val, .val], true, fun xs => ∃ (ns : List Int) (t m : Nat), xs = [.list (ns.map PyData.int), .int t, .int m] ∧ ns.length ≤ 63 ∧ t ≤ 10000 ∧ m ≤ 10000,
  fun xs r yss => ∀ m : Nat, xs[2]? = some (.int m) → ∃ ds : List Int, r = .list (ds.map PyData.int) ∧ ds.length = m ∧ Drawn ds ∧ yss = []⟩
/-! _law_draws: 0 _law_script, 1 _law_turn, 2 _law_many, 3 _law_cells, 4 _law_found, 5 _law_left, 6 _law_k, 7 _law_at, 8 _law_place, 9 _law_number, 10 _law_cell -/
def t__law_draws : VS := (tSCons (tAsgV 3 (vT (tCat (vT (tSlL (tvar 0) tONo (tOSo (vT (tcon (.int 63)))))) (vT (tLstD (tACons (tvar 1) tANil))))))
    (tSCons (tAsgO 4 (tLstD tANil))
    (tSCons (tIf (cOf (vT (tCmp .eq (vT (tBin .mod (vT (tBin .fdiv (vT (tIx (tvar 3) (vT (tcon (.int 0))))) (vT (tcon (.int 50000))))) (vT (tcon (.int 2))))) (vT (tcon (.int 1)))))) (tSCons (tAsgO 5 (tLcV (.one 10) (tIt (tvar 3)) tYesV (vT (tBin .fdiv (tvar 10) (vT (tcon (.int 100000)))))))
    (tSCons (tFor [] (.one 6) (tRng1 (vT (tBin .add (tvar 1) (tvar 2)))) (tSCons (tAsgV 7 (vT (tBin .mod (tvar 6) (vT (tBlt .len (tACons (tvar 5) tANil))))))
    (tSCons (tIf (cOf (vT (tCmp .ge (tvar 6) (tvar 1)))) (tSCons (tExp (vT (tApp 4 (vT (tBin .mod (vT (tIx (tvar 5) (tvar 7))) (vT (tcon (.int 2147483587))))))))
    tSNil) tSNil)
    (tSCons (tSetIx 5 (tvar 7) (vT (tBin .fdiv (vT (tIx (tvar 5) (tvar 7))) (vT (tcon (.int 2147483587))))))
    tSNil))))
    (tSCons (tRetO [] 4)
    tSNil))) tSNil)
    (tSCons (tFor [] (.one 6) (tRng1 (tvar 2)) (tSCons (tAsgV 8 (vT (tBin .add (vT (tBin .mul (vT (tBin .mul (vT (tBin .add (tvar 6) (tvar 1))) (vT (tBin .add (tvar 6) (tvar 1))))) (vT (tcon (.int 7919))))) (vT (tcon (.int 104729))))))
    (tSCons (tAsgV 9 (vT (tBin .mod (vT (tBin .mul (vT (tBin .add (vT (tBin .mod (vT (tIx (tvar 3) (vT (tBin .mod (tvar 6) (vT (tBlt .len (tACons (tvar 3) tANil))))))) (vT (tcon (.int 2147483647))))) (tvar 8))) (vT (tcon (.int 48271))))) (vT (tcon (.int 2147483647))))))
    (tSCons (tAsgV 9 (vT (tBin .mod (vT (tBin .add (vT (tBin .mul (tvar 9) (tvar 9))) (vT (tBin .mul (vT (tcon (.int 69621))) (tvar 6))))) (vT (tcon (.int 2147483629))))))
    (tSCons (tExp (vT (tApp 4 (vT (tBin .mod (vT (tBin .mul (tvar 9) (tvar 9))) (vT (tcon (.int 2147483587))))))))
    tSNil)))))
    (tSCons (tRetO [] 4)
    tSNil)))))
theorem sz_le {n : Nat} (h : n ≤ 1000000) : n ≤ sizeLine := Nat.le_trans h (by decide)
theorem sz_lt {n : Nat} (h : n ≤ 1000000) : n < sizeLine := Nat.lt_of_le_of_lt h (by decide)
theorem cutS63 {ns : List Int} (h : ns.length ≤ 63) : cutD (ns.map PyData.int) none (some 63) = ns.map PyData.int := by
  rw [show (63 : Int) = ((63 : Nat) : Int) from rfl, cut_to, List.take_of_length_le (by simpa using h)]
theorem div_ok {i j : Int} (h : 0 < j ∧ j < 2 ^ 64) : CDivW i j := wide_div h.1 (b := 64) (by omega) (by decide) (by decide)
theorem mul_r {i j : Int} (h : -(2 ^ 64) < j ∧ j < 2 ^ 64) : MulOk i j := .inl (.inr h)
theorem mul_l {i j : Int} (h : -(2 ^ 64) < i ∧ i < 2 ^ 64) : MulOk i j := .inl (.inl h)
theorem mod64 (i : Int) {j : Int} (h : 0 < j) (h2 : j < 2 ^ 64) : -(2 ^ 64) < i % j ∧ i % j < 2 ^ 64 := by
  have h0 := Int.emod_nonneg i (show j ≠ 0 by omega)
  have h1 := Int.emod_lt_of_pos i h
  omega
theorem snoc_ints {fs : List Int} {x : Int} : fs.map PyData.int ++ [PyData.int x] = (fs ++ [x]).map PyData.int := by simp
theorem Drawn.snoc {fs : List Int} (h : Drawn fs) (x : Int) : Drawn (fs ++ [x % 2147483587]) := fun d hd => by
  rcases List.mem_append.mp hd with q | q
  · exact h d q
  · rw [List.mem_singleton.mp q]
    exact ⟨Int.emod_nonneg _ (by decide), Int.emod_lt_of_pos _ (by decide)⟩
theorem set_ints {cs : List Int} {j : Nat} {x : Int} : (cs.map PyData.int).set j (.int x) = (cs.set j x).map PyData.int := List.map_set.symm
theorem ixN_at {n : Nat} {k : Int} (h0 : 0 ≤ k) (h : k < n) : ixN n k = some k.toNat := by
  unfold ixN
  rw [if_pos h0, if_pos h]
theorem plain__law_draws : Plain f__law_draws 11 t__law_draws := by
  rintro xs ρ ⟨ns, t, m, rfl, hl, ht, hm⟩ hi
  cases hi
  refine ⟨sz_le (by simp), rfl, rfl, ?_, ?_⟩
  · rw [cutS63 hl]
    exact sz_le (by simp; omega)
  rw [cutS63 hl, show ns.map PyData.int ++ [PyData.int t] = (ns ++ [(t : Int)]).map PyData.int by simp]
  refine ⟨sz_le (by simp), ?_⟩
  generalize hcs : ns ++ [(t : Int)] = cs
  have hcl : cs.length = ns.length + 1 := by rw [← hcs]; simp
  obtain ⟨c0, hc0, _⟩ := map_at (cs := cs) (k := 0) (by decide) (by omega)
  show tSCons _ _ [.ro false (ns.map PyData.int), .v (.int t), .v (.int m), .v (.list (cs.map PyData.int)), .own [], .no, .no, .no, .no, .no, .no] _ _
  have fin : ∀ ds : List Int, ds.length = m → Drawn ds → ∃ yss, f__law_draws.post [PyData.list (List.map PyData.int ns), PyData.int t, PyData.int m] (.list (ds.map PyData.int)) yss ∧ outs ([] : R) (ownFrom f__law_draws.modes 0) yss := fun ds h1 h2 => by
    refine ⟨[], fun m' e => ?_, .nil⟩
    have e : some (PyData.int m) = some (PyData.int m') := e
    cases e
    exact ⟨ds, rfl, h1, h2, rfl⟩
  refine ⟨_, hc0, div_ok ⟨by decide, by decide⟩, by decide, rfl, fun hb => ?_, fun hb => ?_⟩
  · refine ⟨rfl, rfl, ?_⟩
    refine lc_map (fun c : Int => [PyData.int c]) (fun c => PyData.int (c / 100000)) cs (by simp) guard_nil (fun a ha => ⟨_, rfl, rfl, fun K k => ⟨div_ok ⟨by decide, by decide⟩, k⟩⟩) (sz_le (by omega)) ?_
    refine ⟨by omega, by omega, rfl, ?_⟩
    rw [show ((t : Int) + (m : Int)) = ((t + m : Nat) : Int) by simp]
    refine for_rng0 (fun k ρ => ∃ (ls fs : List Int) (s6 s7 : Sl), ls.length = cs.length ∧ fs.length = k - t ∧ Drawn fs ∧ ρ = [.ro false (ns.map PyData.int), .v (.int t), .v (.int m), .v (.list (cs.map PyData.int)), .own (fs.map PyData.int), .own (ls.map PyData.int), s6, s7, .no, .no, .no]) ⟨cs.map fun c => c / 100000, [], .no, .no, by simp, by simp, fun _ h => absurd h (by simp), ?_⟩ (fun _ _ _ => guard_nil) (fun k ρ K hk hI hK => ?_) (fun ρ hI => ?_)
    · simp [List.set, backR, wipeR, Tg.ix]
    · obtain ⟨ls, fs, s6, s7, h1, h2, h3, rfl⟩ := hI
      have hcl' : (0 : Int) < ((ls.map PyData.int).length : Int) := by rw [List.length_map]; omega
      have hm0 : 0 ≤ (k : Int) % ((ls.map PyData.int).length : Int) := Int.emod_nonneg _ (by omega)
      have hm1 : (k : Int) % ((ls.map PyData.int).length : Int) < (ls.length : Int) := by
        have := Int.emod_lt_of_pos (k : Int) hcl'
        rw [List.length_map] at this ⊢
        exact this
      obtain ⟨c, hc, _⟩ := map_at (cs := ls) hm0 hm1
      have hix : ixN (ls.map PyData.int).length ((k : Int) % ((ls.map PyData.int).length : Int)) = some ((k : Int) % ((ls.map PyData.int).length : Int)).toNat := ixN_at hm0 (Int.emod_lt_of_pos _ hcl')
      refine ⟨_, rfl, hcl', fun hb => ?_, fun hb => ?_⟩
      · have hb : t ≤ k := by simpa using hb
        refine ⟨⟨_, rfl⟩, _, hc, by decide, sz_lt (by simp; omega), _, hc, div_ok ⟨by decide, by decide⟩, ⟨_, rfl⟩, _, hix, ?_⟩
        refine hK _ ⟨ls.set ((k : Int) % ((ls.map PyData.int).length : Int)).toNat (c / 2147483587), fs ++ [c % 2147483587], .v (.int (k : Nat)), .v (.int ((k : Int) % ((ls.map PyData.int).length : Int))), by simp [h1], by simp [h2]; omega, fun d hd => ?_, ?_⟩
        · rcases List.mem_append.mp hd with q | q
          · exact h3 d q
          · have e : d = c % 2147483587 := by simpa using q
            rw [e]
            exact ⟨Int.emod_nonneg _ (by decide), Int.emod_lt_of_pos _ (by decide)⟩
        · rw [← set_ints, List.map_append]
          rfl
      · have hb : k < t := by simpa using hb
        refine ⟨_, hc, div_ok ⟨by decide, by decide⟩, ⟨_, rfl⟩, _, hix, ?_⟩
        refine hK _ ⟨ls.set ((k : Int) % ((ls.map PyData.int).length : Int)).toNat (c / 2147483587), fs, .v (.int (k : Nat)), .v (.int ((k : Int) % ((ls.map PyData.int).length : Int))), by simp [h1], by omega, h3, ?_⟩
        rw [← set_ints]
        rfl
    · obtain ⟨ls, fs, s6, s7, h1, h2, h3, rfl⟩ := hI
      refine ⟨rfl, ?_⟩
      obtain ⟨yss, a, b⟩ := fin fs (by omega) h3
      cases b
      exact ⟨[], a, .nil⟩
  · refine ⟨by omega, by omega, rfl, ?_⟩
    refine for_rng0 (fun k ρ => ∃ (fs : List Int) (s6 s8 s9 : Sl), fs.length = k ∧ Drawn fs ∧ ρ = [.ro false (ns.map PyData.int), .v (.int t), .v (.int m), .v (.list (cs.map PyData.int)), .own (fs.map PyData.int), .no, s6, .no, s8, s9, .no]) ⟨[], .no, .no, .no, by simp, fun _ h => absurd h (by simp), rfl⟩ (fun _ _ _ => guard_nil) (fun k ρ K hk hI hK => ?_) (fun ρ hI => ?_)
    · obtain ⟨fs, s6, s8, s9, h2, h3, rfl⟩ := hI
      have hcl' : (0 : Int) < ((cs.map PyData.int).length : Int) := by rw [List.length_map]; omega
      have hm0 : 0 ≤ (k : Int) % ((cs.map PyData.int).length : Int) := Int.emod_nonneg _ (by omega)
      have hm1 : (k : Int) % ((cs.map PyData.int).length : Int) < (cs.length : Int) := by
        have := Int.emod_lt_of_pos (k : Int) hcl'
        rw [List.length_map] at this ⊢
        exact this
      obtain ⟨c, hc, _⟩ := map_at (cs := cs) hm0 hm1
      refine ⟨_, rfl, mul_l ⟨by omega, by omega⟩, mul_r ⟨by decide, by decide⟩, hcl', _, hc, by decide, mul_r ⟨by decide, by decide⟩, by decide, mul_l (mod64 _ (by decide) (by decide)), mul_l ⟨by decide, by decide⟩, by decide, ⟨_, rfl⟩, mul_l (mod64 _ (by decide) (by decide)), by decide, sz_lt (by simp; omega), ?_⟩
      show K [_, _, _, _, .own (fs.map PyData.int ++ [PyData.int (_ % 2147483587)]), _, _, _, _, _, _]
      rw [snoc_ints]
      refine hK _ ⟨_, _, _, _, by simp [h2], h3.snoc _, rfl⟩
    · obtain ⟨fs, s6, s8, s9, h2, h3, rfl⟩ := hI
      refine ⟨rfl, ?_⟩
      obtain ⟨yss, a, b⟩ := fin fs h2 h3
      cases b
      exact ⟨[], a, .nil⟩
/-! ### pop, size -/
def f__law_pop : FSpec := ⟨"_law_pop", [.own], false, fun xs => ∃ ds : List Int, xs = [.list (ds.map PyData.int)] ∧ Drawn ds, fun _ r yss => ∃ (d : Nat) (ds : List Int), r = .int d ∧ d < 2147483587 ∧ Drawn ds ∧ yss = [ds.map PyData.int]⟩
/-! _law_pop: 0 _law_draws_here -/
def t__law_pop : VS := (tSCons (tIf (cOf (vT (tCmp .eq (tvar 0) (vT (tLstD tANil))))) (tSCons (tRetV (vT (tcon (.int 0))))
    tSNil) tSNil)
    (tSCons (tRetV (vT (tPop 0)))
    tSNil))
theorem plain__law_pop : Plain f__law_pop 1 t__law_pop := by
  rintro xs ρ ⟨ds, rfl, hd⟩ hi
  cases hi
  refine ⟨by decide, eqOk_list okD_ints (fun _ z => absurd z (by simp)), fun hb => ?_, fun hb => ?_⟩
  · exact ⟨_, ⟨0, ds, rfl, by decide, hd, rfl⟩, .cons rfl .nil⟩
  · have hn : ds ≠ [] := fun z => by
      rw [z] at hb
      cases hb
    obtain ⟨d, h1, h2⟩ : ∃ d, (ds.map PyData.int)[(ds.map PyData.int).length - 1]? = some (.int d) ∧ d ∈ ds := by
      refine ⟨ds.getLast hn, ?_, List.getLast_mem hn⟩
      rw [List.length_map, List.getElem?_map, ← List.getLast?_eq_getElem?, List.getLast?_eq_some_getLast hn]
      rfl
    refine ⟨_, h1, ?_⟩
    have h3 := hd d h2
    refine ⟨_, ⟨d.toNat, ds.dropLast, ?_, by omega, fun x hx => hd x (List.dropLast_subset _ hx), rfl⟩, .cons ?_ .nil⟩
    · rw [Int.toNat_of_nonneg h3.1]
    · rw [← List.map_dropLast]
      rfl
def f__law_size : FSpec := ⟨"_law_size", [.own], false, fun xs => ∃ ds : List Int, xs = [.list (ds.map PyData.int)] ∧ Drawn ds, fun _ r yss => ∃ (q n : Nat) (ds : List Int), r = .tuple [.int q, .int n] ∧ szOk q n ∧ 1 ≤ n ∧ Drawn ds ∧ yss = [ds.map PyData.int]⟩
/-! _law_size: 0 _law_draws_here, 1 _law_number, 2 _law_q -/
def t__law_size : VS := (tSCons (tAsgV 1 (vT (tCallF f__law_pop (tACons (tvar 0) tANil))))
    (tSCons (tAsgV 2 (vT (tBin .add (vT (tcon (.int 2))) (vT (tBin .mod (tvar 1) (vT (tcon (.int 2))))))))
    (tSCons (tRetV (vT (tTupD (tACons (tvar 2) (tACons (vT (tBin .add (vT (tcon (.int 1))) (vT (tBin .mod (vT (tBin .fdiv (tvar 1) (vT (tcon (.int 2))))) (vT (tIx (vT (tLstD (tACons (vT (tcon (.int 8))) (tACons (vT (tcon (.int 5))) tANil)))) (vT (tBin .sub (tvar 2) (vT (tcon (.int 2))))))))))) tANil)))))
    tSNil)))
theorem plain__law_size : Plain f__law_size 3 t__law_size := by
  rintro xs ρ ⟨ds, rfl, hd⟩ hi
  cases hi
  refine ⟨rfl, ⟨ds, rfl, hd⟩, ?_⟩
  rintro r yss ⟨d, ds', rfl, hd, hds, rfl⟩
  have hq : (d : Int) % 2 = 0 ∨ (d : Int) % 2 = 1 := by omega
  refine ⟨by decide, ?_⟩
  rcases hq with h | h
  · rw [h]
    refine ⟨div_ok ⟨by decide, by decide⟩, by decide, .int 8, rfl, by decide, sz_le (by simp), _, ⟨2, ((1 + (d : Int) / 2 % 8)).toNat, ds', ?_, .inl ⟨rfl, by omega⟩, by omega, hds, rfl⟩, .cons rfl .nil⟩
    rw [Int.toNat_of_nonneg (by omega)]
    rfl
  · rw [h]
    refine ⟨div_ok ⟨by decide, by decide⟩, by decide, .int 5, rfl, by decide, sz_le (by simp), _, ⟨3, ((1 + (d : Int) / 2 % 5)).toNat, ds', ?_, .inr ⟨rfl, by omega⟩, by omega, hds, rfl⟩, .cons rfl .nil⟩
    rw [Int.toNat_of_nonneg (by omega)]
    rfl
end WA

/-! WP2: distance, weight. -/
namespace WA
open PySem PySem.Spec PyProof.Rows L2
/-- at how many places two words differ -/
def ham : List Nat → List Nat → Nat
  | a :: as, b :: bs => (if a = b then 0 else 1) + ham as bs
  | _, _ => 0
def wt (w : List Nat) : Nat := (w.filter fun s => decide (s ≠ 0)).length
theorem ham_comm : ∀ a b : List Nat, ham a b = ham b a
  | [], [] => rfl
  | [], _ :: _ => rfl
  | _ :: _, [] => rfl
  | a :: as, b :: bs => by
    show (if a = b then 0 else 1) + ham as bs = (if b = a then 0 else 1) + ham bs as
    rw [ham_comm as bs]
    by_cases e : a = b
    · rw [if_pos e, if_pos e.symm]
    · rw [if_neg e, if_neg fun z => e z.symm]
theorem ham_le : ∀ a b : List Nat, ham a b ≤ a.length
  | [], _ => Nat.zero_le _
  | _ :: _, [] => Nat.zero_le _
  | a :: as, b :: bs => by
    show (if a = b then 0 else 1) + ham as bs ≤ as.length + 1
    have := ham_le as bs
    split <;> omega
theorem ham_self : ∀ a : List Nat, ham a a = 0
  | [] => rfl
  | a :: as => by
    show (if a = a then 0 else 1) + ham as as = 0
    rw [ham_self as, if_pos rfl]
theorem ham_zero : ∀ a : List Nat, ham a (List.replicate a.length 0) = wt a
  | [] => rfl
  | a :: as => by
    show (if a = 0 then 0 else 1) + ham as (List.replicate as.length 0) = _
    rw [ham_zero as]
    unfold wt
    by_cases e : a = 0
    · rw [if_pos e, List.filter_cons_of_neg (by simp [e])]
      omega
    · rw [if_neg e, List.filter_cons_of_pos (by simp [e])]
      simp only [List.length_cons]
      omega
theorem ham_count : ∀ a b : List Nat, a.length = b.length → ((List.range a.length).filter fun k => decide (a[k]? ≠ b[k]?)).length = ham a b
  | [], _, _ => rfl
  | a :: as, b :: bs, h => by
    have h' : as.length = bs.length := by simpa using h
    rw [List.length_cons, List.range_succ_eq_map, List.filter_cons, List.filter_map]
    have e : ((fun k => decide ((a :: as)[k]? ≠ (b :: bs)[k]?)) ∘ Nat.succ) = fun k => decide (as[k]? ≠ bs[k]?) := by
      funext k
      simp
    rw [e]
    have ih := ham_count as bs h'
    by_cases q : a = b
    · subst q
      simp only [List.getElem?_cons_zero, ne_eq, not_true_eq_false, decide_false, Bool.false_eq_true, if_false, List.length_map]
      rw [ih]
      show _ = (if a = a then 0 else 1) + ham as bs
      rw [if_pos rfl]
      omega
    · have : decide ((a :: as)[0]? ≠ (b :: bs)[0]?) = true := by simp [q]
      rw [if_pos this]
      simp only [List.length_cons, List.length_map]
      rw [ih]
      show _ = (if a = b then 0 else 1) + ham as bs
      rw [if_neg q]
      omega
/-! ### signs of a word -/
theorem at_wd {w : List Nat} {k : Nat} (h : k < w.length) : atI (wd w).cps.toList (k : Int) = some (w[k] + 48) := by
  refine atI_nat ?_
  rw [wd_cps, List.getElem?_map, List.getElem?_eq_getElem h]
  rfl
theorem its_wd (w : List Nat) : ((wd w).cps.toList.map fun c => [PyData.str ⟨#[c]⟩]) = w.map fun s => [sw [s]] := by
  rw [wd_cps, List.map_map]
  rfl
theorem wd_small {w : List Nat} (h : w.length ≤ 1000) : (wd w).length ≤ sizeLine := by
  rw [wd_len]
  exact Nat.le_trans h sl1000
/-- distance of two words -/
def farS (nm : Str) : FSpec := ⟨nm, [.val, .val], false, fun xs => ∃ a b : List Nat, xs = [sw a, sw b] ∧ a.length = b.length ∧ a.length ≤ 1000, fun xs r yss => ∀ a b : List Nat, xs = [sw a, sw b] → r = .int (ham a b) ∧ yss = []⟩
def f_distance : FSpec := farS "distance"
/-! distance: 0 one, 1 other, 2 k -/
def t_distance : VS := (tSCons (tRetV (vT (tBlt .len (tACons (vT (tLcV (.one 2) (tRng1 (vT (tBlt .len (tACons (tvar 0) tANil)))) (cOf (vT (tCmp .ne (vT (tIx (tvar 0) (tvar 2))) (vT (tIx (tvar 1) (tvar 2)))))) (tvar 2))) tANil))))
    tSNil)
theorem plain_far (nm : Str) : Plain (farS nm) 3 t_distance := by
  rintro xs ρ ⟨a, b, rfl, hl, hs⟩ hi
  cases hi
  refine ⟨wd_small hs, by rw [wd_len]; omega, by rw [wd_len]; omega, rfl, rfl, ?_⟩
  rw [wd_len]
  refine lc_go (fun i : Nat => [PyData.int (i : Nat)]) (fun k => decide (a[k]? ≠ b[k]?)) (fun i => .int (i : Nat)) guard_nil (List.range a.length) (rng0 _) (fun k hk => ?_) (by have := sl1000; simp; omega) ?_
  · have hk := List.mem_range.mp hk
    refine ⟨_, rfl, rfl, fun K k2 => ?_, fun _ K k2 => k2⟩
    refine ⟨_, at_wd hk, wd_small hs, _, at_wd (w := b) (by omega), wd_small (by omega), rfl, ?_⟩
    have e : (!PyData.eqv (sw [a[k]]) (sw [b[k]])) = decide (a[k]? ≠ b[k]?) := by
      rw [eqv_sw, List.getElem?_eq_getElem hk, List.getElem?_eq_getElem (by omega : k < b.length)]
      by_cases z : a[k] = b[k]
      · simp [z]
      · simp [z]
    rw [← e] at k2
    exact k2
  · refine ⟨[], fun a' b' e => ?_, .nil⟩
    obtain ⟨e1, e2⟩ : sw a = sw a' ∧ sw b = sw b' := by simpa using e
    cases sw_inj e1
    cases sw_inj e2
    refine ⟨?_, rfl⟩
    show PyData.int _ = _
    rw [List.nil_append, List.length_map, ham_count a b hl]
theorem plain_distance : Plain f_distance 3 t_distance := plain_far _
def f_weight : FSpec := ⟨"weight", [.val], false, fun xs => ∃ a : List Nat, xs = [sw a] ∧ a.length ≤ 1000, fun xs r yss => ∀ a : List Nat, xs = [sw a] → r = .int (wt a) ∧ yss = []⟩
/-! weight: 0 word, 1 sign -/
def t_weight : VS := (tSCons (tRetV (vT (tBlt .len (tACons (vT (tLcV (.one 1) (tItS (tvar 0)) (cOf (vT (tCmp .ne (tvar 1) (vT (tcon (.str "0")))))) (tvar 1))) tANil))))
    tSNil)
theorem plain_weight : Plain f_weight 2 t_weight := by
  rintro xs ρ ⟨a, rfl, hs⟩ hi
  cases hi
  refine ⟨rfl, rfl, ?_⟩
  refine lc_go (fun s => [sw [s]]) (fun s => decide (s ≠ 0)) (fun s => sw [s]) guard_nil a (its_wd a) (fun s hs => ?_) (by have := sl1000; simp; omega) ?_
  · refine ⟨_, rfl, rfl, fun K k2 => ⟨rfl, ?_⟩, fun _ K k2 => k2⟩
    have e : (!PyData.eqv (sw [s]) (.str ("0" : Str))) = decide (s ≠ 0) := by
      rw [show (PyData.str ("0" : Str)) = sw [0] by rfl, eqv_sw]
      by_cases z : s = 0
      · simp [z]
      · simp [z]
    rw [← e] at k2
    exact k2
  · refine ⟨[], fun a' e => ?_, .nil⟩
    have e1 : sw a = sw a' := by simpa using e
    cases sw_inj e1
    refine ⟨?_, rfl⟩
    show PyData.int _ = _
    rw [List.nil_append, List.length_map]
    rfl
end WA

/-! WL2: words that the laws draw; far, whole. -/
namespace WA
open PySem PySem.Spec PyProof.Rows L2
/-- a word of so many signs -/
def Wd (q n : Nat) (w : List Nat) : Prop := w.length = n ∧ Sg q w
theorem Sg.app {q : Nat} {a b : List Nat} (h : Sg q a) (h' : Sg q b) : Sg q (a ++ b) := fun s hs => by
  rcases List.mem_append.mp hs with z | z
  · exact h s z
  · exact h' s z
theorem Sg.one {q s : Nat} (h : s < q) : Sg q [s] := fun z hz => by
  rw [List.mem_singleton.mp hz]
  exact h
theorem Sg.take {q : Nat} {a : List Nat} (h : Sg q a) (k : Nat) : Sg q (a.take k) := fun s hs => h s (List.take_subset _ _ hs)
theorem Sg.drop {q : Nat} {a : List Nat} (h : Sg q a) (k : Nat) : Sg q (a.drop k) := fun s hs => h s (List.drop_subset _ _ hs)
def f__law_word : FSpec := ⟨"_law_word", [.val, .val, .val], false, fun xs => ∃ d q n : Nat, xs = [.int d, .int q, .int n] ∧ 2 ≤ q ∧ q ≤ 3 ∧ n ≤ 100, fun xs r yss => ∀ q n : Nat, xs[1]? = some (.int q) → xs[2]? = some (.int n) → ∃ w, r = sw w ∧ Wd q n w ∧ yss = []⟩
/-! _law_word: 0 _law_number, 1 _law_q, 2 _law_n, 3 _law_word_here, 4 _law_k -/
def t__law_word : VS := (tSCons (tAsgV 3 (vT (tcon (.str ""))))
    (tSCons (tFor [] (.one 4) (tRng1 (tvar 2)) (tSCons (tAsgV 3 (vT (tBin .add (tvar 3) (vT (tBlt .str (tACons (vT (tBin .mod (tvar 0) (tvar 1))) tANil))))))
    (tSCons (tAsgV 0 (vT (tBin .fdiv (tvar 0) (tvar 1))))
    tSNil)))
    (tSCons (tRetV (tvar 3))
    tSNil)))
theorem nat_mod (a b : Nat) : ((a : Nat) : Int) % (b : Nat) = ((a % b : Nat) : Int) := rfl
theorem nat_div (a b : Nat) : ((a : Nat) : Int) / (b : Nat) = ((a / b : Nat) : Int) := rfl
theorem plain__law_word : Plain f__law_word 5 t__law_word := by
  rintro xs ρ ⟨d, q, n, rfl, hq2, hq3, hn⟩ hi
  cases hi
  refine ⟨by omega, by omega, rfl, ?_⟩
  refine for_rng0 (fun k ρ => ∃ (e : Nat) (w : List Nat) (s4 : Sl), w.length = k ∧ Sg q w ∧ ρ = [.v (.int e), .v (.int q), .v (.int n), .v (sw w), s4]) ⟨d, [], .no, rfl, fun _ h => absurd h (by simp), ?_⟩ (fun _ _ _ => guard_nil) (fun k ρ K hk hI hK => ?_) (fun ρ hI => ?_)
  · show _ = [_, _, _, Sl.v (.str (wd [])), _]
    rw [wd_nil]
    rfl
  · obtain ⟨e, w, s4, h1, h2, rfl⟩ := hI
    have hm : e % q < q := Nat.mod_lt _ (by omega)
    refine ⟨_, rfl, by omega, ?_⟩
    show _ < 1920 ∧ _ ≤ sizeLine ∧ _
    rw [nat_mod, sign_str (by omega)]
    refine ⟨sign_log (by omega), wd_fit (by simp only [List.length_singleton]; omega), div_ok ⟨by omega, by omega⟩, ?_⟩
    rw [wd_app]
    exact hK _ ⟨e / q, w ++ [e % q], _, by simp [h1], h2.app (.one hm), rfl⟩
  · obtain ⟨e, w, s4, h1, h2, rfl⟩ := hI
    refine ⟨[], fun q' n' e1 e2 => ?_, .nil⟩
    have e1 : some (PyData.int q) = some (PyData.int q') := e1
    have e2 : some (PyData.int n) = some (PyData.int n') := e2
    cases e1
    cases e2
    exact ⟨w, rfl, ⟨h1, h2⟩, rfl⟩
def f__law_far : FSpec := farS "_law_far"
/-! _law_far: 0 _law_one, 1 _law_other, 2 _law_k -/
def t__law_far : VS := (tSCons (tRetV (vT (tBlt .len (tACons (vT (tLcV (.one 2) (tRng1 (vT (tBlt .len (tACons (tvar 0) tANil)))) (cOf (vT (tCmp .ne (vT (tIx (tvar 0) (tvar 2))) (vT (tIx (tvar 1) (tvar 2)))))) (tvar 2))) tANil))))
    tSNil)
theorem plain__law_far : Plain f__law_far 3 t__law_far := plain_far _
def f__law_whole : FSpec := ⟨"_law_whole", [.val], false, fun xs => ∃ i : Int, xs = [.int i], fun _ r yss => r = .bool true ∧ yss = []⟩
/-! _law_whole: 0 _law_found -/
def t__law_whole : VS := (tSCons (tRetV (tAnd2 (vT (tIsi .int (tvar 0))) (vT (tNt (vT (tIsi .bool (tvar 0)))))))
    tSNil)
theorem plain__law_whole : Plain f__law_whole 1 t__law_whole := by
  rintro xs ρ ⟨i, rfl⟩ hi
  cases hi
  exact ⟨rfl, fun _ => ⟨rfl, [], ⟨rfl, rfl⟩, .nil⟩, fun h => by cases h⟩
/-! ### texts cut and taken so many times -/
theorem cutS_to (w : List Nat) (k : Nat) : cutS (wd w) none (some (k : Int)) = wd (w.take k) := by
  unfold cutS
  rw [HT.sIx_none, HT.sIx_nat, wd_cps, wd_len]
  simp only [List.drop_zero, Nat.sub_zero]
  unfold wd
  rw [← List.map_take]
  congr 3
  rw [List.take_eq_take_iff]
  omega
theorem cutS_from (w : List Nat) (k : Nat) : cutS (wd w) (some (k : Int)) none = wd (w.drop k) := by
  unfold cutS
  rw [HT.sIx_none, HT.sIx_nat, wd_cps, wd_len]
  unfold wd
  rw [← List.map_drop, ← List.map_take]
  congr 2
  rcases Nat.le_total k w.length with h | h
  · rw [Nat.min_eq_left h, List.take_of_length_le (by rw [List.length_drop]; exact Nat.le_refl _)]
  · rw [Nat.min_eq_right h, List.drop_eq_nil_of_le h, List.drop_length, List.take_nil]
theorem mul_ok {s : Nat} {n : Nat} (h : n ≤ 1000) : PySem.MulOk (wd [s]) (n : Int) := by
  refine ⟨?_, fun h1 _ => ?_, fun h1 _ => ?_⟩
  · rw [decide_eq_false (by omega), decide_eq_false (by omega)]
    rfl
  · rw [wd_len]
    have : (2 ^ 63 - 1 : Int) / (n : Int) ≥ 1 := by
      rw [ge_iff_le, Int.le_ediv_iff_mul_le (by omega)]
      omega
    simp only [List.length_singleton]
    omega
  · rw [wd_len]
    unfold Builtin.Str.tooLong
    have := sl1000
    simp only [List.length_singleton, Int.toNat_natCast, decide_eq_false_iff_not]
    omega
theorem mul_wd (s n : Nat) : Txt.mul (wd [s]) (n : Int) = wd (List.replicate n s) := by
  unfold Txt.mul
  by_cases h1 : (n : Int) < 1
  · rw [if_pos h1]
    have : n = 0 := by omega
    subst this
    rfl
  · rw [if_neg h1]
    by_cases h2 : n = 1
    · subst h2
      rfl
    · have : ((n : Int) == 1 || (wd [s]).length == 0) = false := by
        rw [wd_len]
        simp
        omega
      rw [this, if_neg Bool.false_ne_true, Int.toNat_natCast]
      have go : ∀ (m : Nat) (acc : Array Nat), (List.replicate m (wd [s]).cps).foldl (· ++ ·) acc = acc ++ ((List.replicate m s).map (· + 48)).toArray := by
        intro m
        induction m with
        | zero => intro acc; simp
        | succ m ih =>
          intro acc
          rw [List.replicate_succ, List.foldl_cons, ih, List.replicate_succ, List.map_cons]
          apply Array.ext'
          simp [wd]
      rw [go]
      unfold wd
      simp
end WA

/-! WP3: apart, keeps. -/
namespace WA
open PySem PySem.Spec PyProof.Rows L2
/-! ### all words, by what is in -/
theorem mem_allL {q : Nat} : ∀ {n : Nat} {w : List Nat}, w ∈ allL q n ↔ Wd q n w
  | 0, w => by
    constructor
    · intro h
      exact ⟨allL_wlen q 0 w h, allL_sg q 0 w h⟩
    · rintro ⟨h, _⟩
      have : w = [] := List.length_eq_zero_iff.mp h
      subst this
      simp [allL]
  | n + 1, w => by
    constructor
    · intro h
      exact ⟨allL_wlen q _ w h, allL_sg q _ w h⟩
    · rintro ⟨h, g⟩
      have hne : w ≠ [] := fun z => by rw [z] at h; simp at h
      have e := List.dropLast_concat_getLast hne
      unfold allL
      refine List.mem_flatMap.mpr ⟨w.dropLast, mem_allL.mpr ⟨by rw [List.length_dropLast, h]; rfl, fun s hs => g s (List.dropLast_subset _ hs)⟩, List.mem_map.mpr ⟨w.getLast hne, List.mem_range.mpr (g _ (List.getLast_mem hne)), e⟩⟩
/-! ### gaps -/
def gapsA : List (List Nat) → List (List Nat) → List Nat
  | _, [] => []
  | p, w :: r => p.map (ham w) ++ gapsA (p ++ [w]) r
/-- the distances of all pairs -/
def gapsL (ws : List (List Nat)) : List Nat := gapsA [] ws
theorem gapsA_snoc (w : List Nat) : ∀ (r p : List (List Nat)), gapsA p (r ++ [w]) = gapsA p r ++ (p ++ r).map (ham w)
  | [], p => by simp [gapsA]
  | x :: r, p => by
    show p.map (ham x) ++ gapsA (p ++ [x]) (r ++ [w]) = (p.map (ham x) ++ gapsA (p ++ [x]) r) ++ (p ++ x :: r).map (ham w)
    rw [gapsA_snoc w r (p ++ [x])]
    simp
theorem gapsL_snoc (p : List (List Nat)) (w : List Nat) : gapsL (p ++ [w]) = gapsL p ++ p.map (ham w) := by
  unfold gapsL
  rw [gapsA_snoc]
  simp
theorem mem_gapsA {x : Nat} : ∀ {r p : List (List Nat)}, x ∈ gapsA p r ↔ (∃ a b, a ∈ p ∧ b ∈ r ∧ x = ham b a) ∨ ∃ a b, [a, b].Sublist r ∧ x = ham b a
  | [], p => by simp [gapsA]
  | w :: r, p => by
    show x ∈ p.map (ham w) ++ gapsA (p ++ [w]) r ↔ _
    rw [List.mem_append, mem_gapsA]
    constructor
    · rintro (h | ⟨a, b, ha, hb, e⟩ | ⟨a, b, h, e⟩)
      · obtain ⟨a, ha, e⟩ := List.mem_map.mp h
        exact .inl ⟨a, w, ha, List.mem_cons_self, e.symm⟩
      · rcases List.mem_append.mp ha with z | z
        · exact .inl ⟨a, b, z, List.mem_cons_of_mem _ hb, e⟩
        · have : a = w := by simpa using z
          subst this
          exact .inr ⟨a, b, List.Sublist.cons_cons _ (List.singleton_sublist.mpr hb), e⟩
      · exact .inr ⟨a, b, List.Sublist.cons _ h, e⟩
    · rintro (⟨a, b, ha, hb, e⟩ | ⟨a, b, h, e⟩)
      · rcases List.mem_cons.mp hb with z | z
        · subst z
          exact .inl (List.mem_map.mpr ⟨a, ha, e.symm⟩)
        · exact .inr (.inl ⟨a, b, List.mem_append_left _ ha, z, e⟩)
      · cases h with
        | cons _ h => exact .inr (.inr ⟨a, b, h, e⟩)
        | cons_cons _ h => exact .inr (.inl ⟨_, b, by simp, List.singleton_sublist.mp h, e⟩)
theorem mem_gapsL {x : Nat} {ws : List (List Nat)} : x ∈ gapsL ws ↔ ∃ a b, [a, b].Sublist ws ∧ x = ham b a := by
  unfold gapsL
  rw [mem_gapsA]
  simp
theorem mem_gaps_rev {x : Nat} {ws : List (List Nat)} : x ∈ gapsL ws.reverse ↔ x ∈ gapsL ws := by
  rw [mem_gapsL, mem_gapsL]
  constructor
  · rintro ⟨a, b, h, e⟩
    refine ⟨b, a, ?_, by rw [ham_comm]; exact e⟩
    have := List.reverse_sublist.mpr h
    simpa using this
  · rintro ⟨a, b, h, e⟩
    refine ⟨b, a, ?_, by rw [ham_comm]; exact e⟩
    have := List.reverse_sublist.mpr h
    simpa using this
/-! ### the least -/
def minS : Option Nat → Nat → Option Nat
  | none, x => some x
  | some m, x => some (if x < m then x else m)
def minL (l : List Nat) : Option Nat := l.foldl minS none
theorem minF_spec : ∀ (l : List Nat) (m : Nat), ∃ k, l.foldl minS (some m) = some k ∧ (k = m ∨ k ∈ l) ∧ k ≤ m ∧ ∀ y ∈ l, k ≤ y
  | [], m => ⟨m, rfl, .inl rfl, Nat.le_refl _, fun _ h => absurd h (by simp)⟩
  | x :: l, m => by
    obtain ⟨k, h1, h2, h3, h4⟩ := minF_spec l (if x < m then x else m)
    refine ⟨k, h1, ?_, ?_, fun y hy => ?_⟩
    · rcases h2 with z | z
      · by_cases hx : x < m
        · rw [if_pos hx] at z
          exact .inr (by rw [z]; exact List.mem_cons_self)
        · rw [if_neg hx] at z
          exact .inl z
      · exact .inr (List.mem_cons_of_mem _ z)
    · by_cases hx : x < m
      · rw [if_pos hx] at h3; omega
      · rw [if_neg hx] at h3; exact h3
    · rcases List.mem_cons.mp hy with z | z
      · subst z
        by_cases hx : y < m
        · rw [if_pos hx] at h3; exact h3
        · rw [if_neg hx] at h3; omega
      · exact h4 y z
theorem minL_nil : minL [] = none := rfl
theorem minL_some {l : List Nat} (h : l ≠ []) : ∃ k, minL l = some k ∧ k ∈ l ∧ ∀ y ∈ l, k ≤ y := by
  cases l with
  | nil => exact absurd rfl h
  | cons x l =>
    obtain ⟨k, h1, h2, h3, h4⟩ := minF_spec l x
    refine ⟨k, h1, ?_, fun y hy => ?_⟩
    · rcases h2 with z | z
      · rw [z]; exact List.mem_cons_self
      · exact List.mem_cons_of_mem _ z
    · rcases List.mem_cons.mp hy with z | z
      · rw [z]; exact h3
      · exact h4 y z
theorem minL_eq {l : List Nat} {k : Nat} (h1 : k ∈ l) (h2 : ∀ y ∈ l, k ≤ y) : minL l = some k := by
  obtain ⟨m, e, a, b⟩ := minL_some (l := l) fun z => by rw [z] at h1; simp at h1
  have h3 := h2 m a
  have h4 := b k h1
  rw [e]
  exact congrArg some (by omega)
theorem minL_same {l l' : List Nat} (h : ∀ x, x ∈ l ↔ x ∈ l') : minL l = minL l' := by
  by_cases e : l' = []
  · subst e
    have : l = [] := List.eq_nil_iff_forall_not_mem.mpr fun x hx => by simpa using (h x).mp hx
    rw [this]
  · obtain ⟨k, e1, e2, e3⟩ := minL_some e
    rw [e1]
    exact minL_eq ((h k).mpr e2) fun y hy => e3 y ((h y).mp hy)
def encO : Option Nat → D
  | none => .none
  | some m => .int (m : Nat)
/-- words of one length -/
def Len (n : Nat) (ws : List (List Nat)) : Prop := ∀ w ∈ ws, w.length = n
theorem cut_sws (ws : List (List Nat)) (k : Nat) : cutD (ws.map sw) none (some (k : Int)) = (ws.take k).map sw := by
  rw [cut_to, List.map_take]
theorem sws_inj {a b : List (List Nat)} (h : a.map sw = b.map sw) : a = b := (List.map_inj_right fun _ _ e => sw_inj e).mp h
def f_apart : FSpec := ⟨"apart", [.ro], false, fun xs => ∃ (n : Nat) (ws : List (List Nat)), xs = [.list (ws.map sw)] ∧ Len n ws ∧ n ≤ 1000 ∧ ws.length ≤ 1000000, fun xs r yss => ∀ ws : List (List Nat), xs = [.list (ws.map sw)] → r = encO (minL (gapsL ws)) ∧ yss = []⟩
/-! apart: 0 words, 1 found, 2 k, 3 word, 4 other, 5 far -/
def t_apart : VS := (tSCons (tAsgV 1 (vT (tcon .none)))
    (tSCons (tFor [0] (.two 2 3) (tEnum (tvar 0)) (tSCons (tFor [0] (.one 4) (tIt (vT (tSlL (tvar 0) tONo (tOSo (tvar 2))))) (tSCons (tAsgV 5 (vT (tCallF f_distance (tACons (tvar 3) (tACons (tvar 4) tANil)))))
    (tSCons (tIf (cOf (tOr2 (vT (tCmp .isN (tvar 1) (vT (tcon .none)))) (vT (tCmp .lt (tvar 5) (tvar 1))))) (tSCons (tAsgV 1 (tvar 5))
    tSNil) tSNil)
    tSNil)))
    tSNil))
    (tSCons (tRetV (tvar 1))
    tSNil)))
theorem enum_sws (ws : List (List Nat)) : enumD (ws.map sw) = (List.range ws.length).map fun i => [PyData.int (i : Nat), sw (ws.getD i [])] := by
  unfold enumD
  rw [List.length_map]
  refine List.map_congr_left fun i hi => ?_
  have hi := List.mem_range.mp hi
  rw [List.getD_eq_getElem?_getD, List.getElem?_map, List.getD_eq_getElem?_getD, List.getElem?_eq_getElem hi]
  rfl
theorem take_succ_getD {ws : List (List Nat)} {k : Nat} (h : k < ws.length) : ws.take (k + 1) = ws.take k ++ [ws.getD k []] := by
  rw [List.take_succ_eq_append_getElem h, List.getD_eq_getElem?_getD, List.getElem?_eq_getElem h]
  rfl
theorem getD_mem {ws : List (List Nat)} {k : Nat} (h : k < ws.length) : ws.getD k [] ∈ ws := by
  rw [List.getD_eq_getElem?_getD, List.getElem?_eq_getElem h]
  exact List.getElem_mem h
theorem range_at {n : Nat} {p q : List Nat} {a : Nat} (h : List.range n = p ++ a :: q) : a = p.length ∧ p.length < n := by
  have hl := congrArg List.length h
  simp only [List.length_range, List.length_append, List.length_cons] at hl
  have e2 : (List.range n)[p.length]? = some a := by rw [h]; simp
  rw [List.getElem?_range (by omega)] at e2
  exact ⟨(Option.some.inj e2).symm, by omega⟩
theorem plain_apart : Plain f_apart 6 t_apart := by
  rintro xs ρ ⟨n, ws, rfl, hL, hn, hz⟩ hi
  cases hi
  refine ⟨rfl, ?_⟩
  refine for_all (fun i => [PyData.int (i : Nat), sw (ws.getD i [])]) (List.range ws.length) (fun p ρ => ∃ s2 s3 s4 s5, ρ = [.ro false (ws.map sw), .v (encO (minL (gapsL (ws.take p.length)))), s2, s3, s4, s5]) (enum_sws ws) ⟨_, _, _, _, rfl⟩ (fun p ρ h => ?_) (fun p k r ρ K he hI hK => ?_) (fun ρ hI => ?_)
  · obtain ⟨s2, s3, s4, s5, rfl⟩ := h
    exact guard_one rfl
  · obtain ⟨s2, s3, s4, s5, rfl⟩ := hI
    obtain ⟨rfl, hk⟩ := range_at he
    refine ⟨_, rfl, rfl, ?_⟩
    rw [cut_sws]
    refine for_all (fun w => [sw w]) (ws.take p.length) (fun m ρ => ∃ s4 s5, ρ = [.ro false (ws.map sw), .v (encO (minL (gapsL (ws.take p.length) ++ m.map (ham (ws.getD p.length []))))), .v (.int (p.length : Nat)), .v (sw (ws.getD p.length [])), s4, s5]) (by rw [List.map_map]; rfl) ⟨s4, s5, by simp⟩ (fun _ _ _ => guard_nil) (fun m w r' ρ K' he' hI' hK' => ?_) (fun ρ hI' => ?_)
    · obtain ⟨s4, s5, rfl⟩ := hI'
      have hw : w ∈ ws := List.take_subset p.length ws (by rw [he']; simp)
      have hx := getD_mem hk
      refine ⟨_, rfl, rfl, ⟨_, w, rfl, by rw [hL _ hx, hL _ hw], by rw [hL _ hx]; omega⟩, fun r y h => ?_⟩
      obtain ⟨rfl, rfl⟩ := h _ _ rfl
      have e : minL (gapsL (ws.take p.length) ++ (m ++ [w]).map (ham (ws.getD p.length []))) = minS (minL (gapsL (ws.take p.length) ++ m.map (ham (ws.getD p.length [])))) (ham (ws.getD p.length []) w) := by
        unfold minL
        rw [List.map_append, ← List.append_assoc, List.foldl_append]
        rfl
      rw [e] at hK'
      generalize hx' : ham (ws.getD p.length []) w = x at hK' ⊢
      cases hm : minL (gapsL (ws.take p.length) ++ m.map (ham (ws.getD p.length []))) with
      | none =>
        rw [hm] at hK'
        exact ⟨fun _ => ⟨fun _ => hK' _ ⟨_, _, rfl⟩, fun h => (by cases h)⟩, fun h => (by cases h)⟩
      | some k =>
        rw [hm] at hK'
        by_cases hlt : x < k
        · have e2 : minS (some k) x = some x := by
            show some (if x < k then x else k) = _
            rw [if_pos hlt]
          rw [e2] at hK'
          exact ⟨fun h => (by cases h), fun _ => ⟨fun h => hK' _ ⟨_, _, rfl⟩, fun h => by
            have h : decide (((x : Nat) : Int) < ((k : Nat) : Int)) = false := h
            simp only [decide_eq_false_iff_not] at h
            omega⟩⟩
        · have e2 : minS (some k) x = some k := by
            show some (if x < k then x else k) = _
            rw [if_neg hlt]
          rw [e2] at hK'
          exact ⟨fun h => (by cases h), fun _ => ⟨fun h => by
            have h : decide (((x : Nat) : Int) < ((k : Nat) : Int)) = true := h
            simp only [decide_eq_true_eq] at h
            omega, fun h => hK' _ ⟨_, _, rfl⟩⟩⟩
    · obtain ⟨s4, s5, rfl⟩ := hI'
      rw [List.length_append, List.length_singleton, take_succ_getD hk, gapsL_snoc] at hK
      exact hK _ ⟨_, _, _, _, rfl⟩
  · obtain ⟨s2, s3, s4, s5, rfl⟩ := hI
    refine ⟨[], fun ws' e => ?_, .nil⟩
    have e : ws.map sw = ws'.map sw := by simpa using e
    cases sws_inj e
    rw [List.length_range, List.take_length]
    exact ⟨rfl, rfl⟩
/-- no two nearer -/
def keepsB (ws : List (List Nat)) (d : Int) : Bool := (gapsL ws).all fun x => decide (d ≤ (x : Nat))
theorem keepsB_min (ws : List (List Nat)) (d : Int) : keepsB ws d = match minL (gapsL ws) with
    | none => true
    | some m => decide (d ≤ (m : Nat)) := by
  by_cases e : gapsL ws = []
  · unfold keepsB
    rw [e]
    rfl
  · obtain ⟨k, e1, e2, e3⟩ := minL_some e
    rw [e1]
    unfold keepsB
    by_cases h : d ≤ (k : Nat)
    · show _ = decide (d ≤ (k : Nat))
      rw [decide_eq_true h, List.all_eq_true]
      intro x hx
      have := e3 x hx
      rw [decide_eq_true_eq]
      omega
    · show _ = decide (d ≤ (k : Nat))
      rw [decide_eq_false h, List.all_eq_false]
      exact ⟨k, e2, by simpa using h⟩
def f_keeps : FSpec := ⟨"keeps", [.ro, .val], false, fun xs => ∃ (n : Nat) (ws : List (List Nat)) (d : Int), xs = [.list (ws.map sw), .int d] ∧ Len n ws ∧ n ≤ 1000 ∧ ws.length ≤ 1000000, fun xs r yss => ∀ (ws : List (List Nat)) (d : Int), xs = [.list (ws.map sw), .int d] → r = .bool (keepsB ws d) ∧ yss = []⟩
/-! keeps: 0 words, 1 d, 2 found -/
def t_keeps : VS := (tSCons (tAsgV 2 (vT (tCallF f_apart (tACons (tvar 0) tANil))))
    (tSCons (tRetV (tOr2 (vT (tCmp .isN (tvar 2) (vT (tcon .none)))) (vT (tCmp .ge (tvar 2) (tvar 1)))))
    tSNil))
theorem plain_keeps : Plain f_keeps 3 t_keeps := by
  rintro xs ρ ⟨n, ws, d, rfl, hL, hn, hz⟩ hi
  cases hi
  refine ⟨rfl, ⟨n, ws, rfl, hL, hn, hz⟩, fun r y h => ?_⟩
  obtain ⟨rfl, rfl⟩ := h ws rfl
  have fin : ∀ ρ, ∃ yss, f_keeps.post [PyData.list (ws.map sw), .int d] (.bool (keepsB ws d)) yss ∧ outs ρ (ownFrom f_keeps.modes 0) yss := fun ρ => by
    refine ⟨[], fun ws' d' e => ?_, .nil⟩
    have e1 : ws.map sw = ws'.map sw ∧ d = d' := by simpa using e
    obtain ⟨e2, rfl⟩ := e1
    cases sws_inj e2
    exact ⟨rfl, rfl⟩
  have e := keepsB_min ws d
  cases hm : minL (gapsL ws) with
  | none =>
    rw [hm] at e
    have e : keepsB ws d = true := e
    rw [e] at fin
    exact ⟨fun _ => fin _, fun h => (by cases h)⟩
  | some k =>
    rw [hm] at e
    have e : keepsB ws d = decide (d ≤ (k : Nat)) := e
    rw [e] at fin
    exact ⟨fun h => (by cases h), fun _ => fin _⟩
end WA

/-! WL3: lists that the laws draw. -/
namespace WA
open PySem PySem.Spec PyProof.Rows L2
def f__law_all : FSpec := ⟨"_law_all", [.val, .val], true, fun xs => ∃ q n : Nat, xs = [.int q, .int n] ∧ szOk q n, fun xs r yss => ∀ q n : Nat, xs = [.int q, .int n] → r = .list ((allL q n).map sw) ∧ yss = []⟩
/-! _law_all: 0 _law_q, 1 _law_n, 2 _law_found, 3 _law_k, 4 _law_more, 5 _law_word_here, 6 _law_sign -/
def t__law_all : VS := (tSCons (tAsgO 2 (tLstD (tACons (vT (tcon (.str ""))) tANil)))
    (tSCons (tFor [] (.one 3) (tRng1 (tvar 1)) (tSCons (tAsgO 4 (tLstD tANil))
    (tSCons (tFor [2] (.one 5) (tIt (tvar 2)) (tSCons (tAsgO 4 (tCat (tvar 4) (vT (tLcV (.one 6) (tRng1 (tvar 0)) tYesV (vT (tBin .add (tvar 5) (vT (tBlt .str (tACons (tvar 6) tANil)))))))))
    tSNil))
    (tSCons (tMv true [] 2 4)
    tSNil))))
    (tSCons (tRetO [] 2)
    tSNil)))
theorem plain__law_all : Plain f__law_all 7 t__law_all := by
  rintro xs ρ ⟨q, n, rfl, hs⟩ hi
  cases hi
  have hq := hs.q3
  have hn := hs.n8
  refine ⟨by decide, by omega, by omega, rfl, ?_⟩
  refine for_rng0 (fun k ρ => ∃ s3 s4 s5, ρ = [.v (.int q), .v (.int n), .own ((allL q k).map sw), s3, s4, s5, .no]) ⟨.no, .no, .no, rfl⟩ (fun _ _ _ => guard_nil) (fun k ρ K hk hI hK => ?_) (fun ρ hI => ?_)
  · obtain ⟨s3, s4, s5, rfl⟩ := hI
    have hpow := pow_le (hs.le (m := k + 1) hk)
    refine ⟨_, rfl, by decide, rfl, ?_⟩
    refine for_all (fun w => [sw w]) (allL q k) (fun p ρ => ∃ s5, ρ = [.v (.int q), .v (.int n), .own ((allL q k).map sw), .v (.int (k : Nat)), .own ((p.flatMap fun w => (List.range q).map fun s => w ++ [s]).map sw), s5, .no]) (by simp) ⟨s5, rfl⟩ (fun p ρ h => ?_) (fun p w r ρ K' he hI hK' => ?_) (fun ρ hI => ?_)
    · obtain ⟨s5, rfl⟩ := h
      exact guard_one rfl
    · obtain ⟨s5, rfl⟩ := hI
      have hw : w ∈ allL q k := by rw [he]; simp
      have hwl := allL_wlen q k w hw
      refine ⟨_, rfl, by omega, by omega, rfl, rfl, ?_⟩
      refine lc_map (fun i : Nat => [PyData.int (i : Nat)]) (fun s => sw (w ++ [s])) (List.range q) (rng0 q) guard_nil (fun a ha => ?_) (len_le List.length_range (by omega)) ?_
      · have ha := List.mem_range.mp ha
        refine ⟨_, rfl, rfl, fun K2 k2 => ⟨sign_log (by omega), ?_, ?_⟩⟩
        · rw [sign_str (by omega)]
          exact wd_fit (by simp only [List.length_singleton]; omega)
        · show K2 (.val (.str (wd w ++ ((toString (a : Int) : String) : Str)))) _
          rw [sign_str (by omega), wd_app]
          exact k2
      · refine ⟨rfl, rfl, ?_, hK' _ ⟨.v (sw w), ?_⟩⟩
        · have := pre_len he
          have := sl1000
          simp only [List.length_map, List.length_range]
          omega
        · rw [List.flatMap_append]
          simp [List.set, backR, wipeR, Tg.ix, sw]
    · obtain ⟨s5, rfl⟩ := hI
      exact ⟨rfl, hK _ ⟨_, .no, s5, rfl⟩⟩
  · obtain ⟨s3, s4, s5, rfl⟩ := hI
    refine ⟨rfl, [], fun q' n' e => ?_, .nil⟩
    cases e
    exact ⟨rfl, rfl⟩
/-- words of the length and signs -/
def Wds (q n : Nat) (ws : List (List Nat)) : Prop := ∀ w ∈ ws, Wd q n w
theorem Wds.len {q n : Nat} {ws : List (List Nat)} (h : Wds q n ws) : Len n ws := fun w hw => (h w hw).1
theorem Wds.sg {q n : Nat} {ws : List (List Nat)} (h : Wds q n ws) : ∀ w ∈ ws, Sg q w := fun w hw => (h w hw).2
theorem Wds.snoc {q n : Nat} {ws : List (List Nat)} {w : List Nat} (h : Wds q n ws) (hw : Wd q n w) : Wds q n (ws ++ [w]) := fun x hx => by
  rcases List.mem_append.mp hx with z | z
  · exact h x z
  · rw [List.mem_singleton.mp z]; exact hw
theorem Wds.rev {q n : Nat} {ws : List (List Nat)} (h : Wds q n ws) : Wds q n ws.reverse := fun x hx => h x (List.mem_reverse.mp hx)
theorem Wds.sub {q n : Nat} {ws vs : List (List Nat)} (h : Wds q n ws) (s : ∀ x ∈ vs, x ∈ ws) : Wds q n vs := fun x hx => h x (s x hx)
theorem Wds.all (q n : Nat) : Wds q n (allL q n) := fun w hw => mem_allL.mp hw
theorem snoc_sws {ws : List (List Nat)} {w : List Nat} : ws.map sw ++ [sw w] = (ws ++ [w]).map sw := by simp
theorem its_sws (ws : List (List Nat)) : ((ws.map sw).map fun x => [x]) = ws.map fun w => [sw w] := by
  rw [List.map_map]
  rfl
theorem sg_ok {q : Nat} {ws : List (List Nat)} (hq : q ≤ 3) (h : ∀ w ∈ ws, Sg q w) : ∀ x ∈ ws.map sw, okD x = true := okD_sws (q := q) (by omega) h
def f__law_list : FSpec := ⟨"_law_list", [.own, .val, .val, .val, .val], true,
  fun xs => ∃ (ds : List Int) (q n m : Nat) (far : Int), xs = [.list (ds.map PyData.int), .int q, .int n, .int m, .int far] ∧ Drawn ds ∧ 2 ≤ q ∧ q ≤ 3 ∧ n ≤ 100 ∧ m ≤ 1000,
  fun xs r yss => ∀ (q n m : Nat) (far : Int), xs[1]? = some (.int q) → xs[2]? = some (.int n) → xs[3]? = some (.int m) → xs[4]? = some (.int far) →
    ∃ (ws : List (List Nat)) (ds : List Int), r = .list (ws.map sw) ∧ Wds q n ws ∧ ws.length ≤ m ∧ keepsB ws far = true ∧ Drawn ds ∧ yss = [ds.map PyData.int]⟩
/-! _law_list: 0 _law_draws_here, 1 _law_q, 2 _law_n, 3 _law_most, 4 _law_far_here, 5 _law_found, 6 _law_k, 7 _law_word_here, 8 _law_one -/
def t__law_list : VS := (tSCons (tAsgO 5 (tLstD tANil))
    (tSCons (tFor [0] (.one 6) (tRng1 (vT (tBin .mod (vT (tCallF f__law_pop (tACons (tvar 0) tANil))) (vT (tBin .add (tvar 3) (vT (tcon (.int 1)))))))) (tSCons (tAsgV 7 (vT (tCallF f__law_word (tACons (vT (tCallF f__law_pop (tACons (tvar 0) tANil))) (tACons (tvar 1) (tACons (tvar 2) tANil))))))
    (tSCons (tIf (cOf (vT (tCmp .eq (vT (tLcV (.one 8) (tIt (tvar 5)) (cOf (vT (tCmp .lt (vT (tCallF f__law_far (tACons (tvar 8) (tACons (tvar 7) tANil)))) (tvar 4)))) (tvar 8))) (vT (tLstD tANil))))) (tSCons (tExp (vT (tApp 5 (tvar 7))))
    tSNil) tSNil)
    tSNil)))
    (tSCons (tRetO [0] 5)
    tSNil)))
theorem plain__law_list : Plain f__law_list 9 t__law_list := by
  rintro xs ρ ⟨ds, q, n, m, far, rfl, hd, hq2, hq3, hn, hm⟩ hi
  cases hi
  refine ⟨by decide, rfl, ⟨ds, rfl, hd⟩, fun r yss h => ?_⟩
  obtain ⟨c, ds1, rfl, hc, hd1, rfl⟩ := h
  refine ⟨by omega, ?_⟩
  rw [show ((c : Nat) : Int) % ((m : Nat) + 1 : Int) = ((c % (m + 1) : Nat) : Int) from rfl]
  have hcm : c % (m + 1) < m + 1 := Nat.mod_lt _ (by omega)
  generalize hcc : c % (m + 1) = cc at hcm ⊢
  refine ⟨by omega, by omega, rfl, ?_⟩
  refine for_rng0 (fun k ρ => ∃ (ds : List Int) (ws : List (List Nat)) (s6 s7 : Sl), Drawn ds ∧ Wds q n ws ∧ ws.length ≤ k ∧ keepsB ws far = true ∧ ρ = [.own (ds.map PyData.int), .v (.int q), .v (.int n), .v (.int m), .v (.int far), .own (ws.map sw), s6, s7, .no]) ⟨ds1, [], .no, .no, hd1, fun _ h => absurd h (by simp), Nat.zero_le _, rfl, rfl⟩ (fun _ _ _ => guard_nil) (fun k ρ K hk hI hK => ?_) (fun ρ hI => ?_)
  · obtain ⟨ds, ws, s6, s7, hd, hw, hl, hkp, rfl⟩ := hI
    refine ⟨_, rfl, rfl, ⟨ds, rfl, hd⟩, fun r yss h => ?_⟩
    obtain ⟨d, ds1, rfl, hdd, hd1, rfl⟩ := h
    refine ⟨rfl, ⟨d, q, n, rfl, hq2, hq3, hn⟩, fun r yss h => ?_⟩
    obtain ⟨w, rfl, hww, rfl⟩ := h q n rfl rfl
    refine ⟨rfl, rfl, ?_⟩
    refine lc_go (fun w => [sw w]) (fun o => decide (((ham o w : Nat) : Int) < far)) (fun o => sw o) (guard_one rfl) ws (its_sws ws) (fun o ho => ?_) (sz_le (by simp; omega)) ?_
    · refine ⟨_, rfl, rfl, fun K k => ⟨rfl, ⟨o, w, rfl, by rw [(hw o ho).1, hww.1], by rw [(hw o ho).1]; omega⟩, fun r yss h => ?_⟩, fun _ K k => k⟩
      obtain ⟨rfl, rfl⟩ := h o w rfl
      exact k
    · rw [List.nil_append]
      refine ⟨by decide, eqOk_list (sg_ok hq3 fun x hx => hw.sg x (List.mem_filter.mp hx).1) (fun _ z => absurd z (by simp)), fun hb => ?_, fun hb => ?_⟩
      · refine ⟨⟨_, rfl⟩, sz_lt (by simp; omega), ?_⟩
        show K [_, _, _, _, _, .own (ws.map sw ++ [sw w]), _, _, _]
        rw [snoc_sws]
        refine hK _ ⟨ds1, ws ++ [w], _, _, hd1, hw.snoc hww, by simp; omega, ?_, rfl⟩
        have hf : ws.filter (fun o => decide (((ham o w : Nat) : Int) < far)) = [] := by
          have hb : PyData.eqv (.list ((ws.filter (fun o => decide (((ham o w : Nat) : Int) < far))).map sw)) (.list (([] : List (List Nat)).map sw)) = true := hb
          rw [eqv_sws] at hb
          simpa using hb
        unfold keepsB at hkp ⊢
        rw [gapsL_snoc, List.all_append, hkp, Bool.true_and, List.all_eq_true]
        intro x hx
        obtain ⟨o, ho, rfl⟩ := List.mem_map.mp hx
        have := List.filter_eq_nil_iff.mp hf o ho
        rw [ham_comm w o]
        simp only [decide_eq_true_eq] at this ⊢
        omega
      · exact hK _ ⟨ds1, ws, _, _, hd1, hw, by omega, hkp, rfl⟩
  · obtain ⟨ds, ws, s6, s7, hd, hw, hl, hkp, rfl⟩ := hI
    refine ⟨rfl, _, fun q' n' m' far' e1 e2 e3 e4 => ?_, .cons rfl .nil⟩
    have e1 : some (PyData.int q) = some (PyData.int q') := e1
    have e2 : some (PyData.int n) = some (PyData.int n') := e2
    have e3 : some (PyData.int m) = some (PyData.int m') := e3
    have e4 : some (PyData.int far) = some (PyData.int far') := e4
    cases e1
    cases e2
    cases e3
    cases e4
    exact ⟨ws, ds, rfl, hw, by omega, hkp, hd, rfl⟩
def f__law_many : FSpec := ⟨"_law_many", [.own, .val, .val], true,
  fun xs => ∃ (ds : List Int) (q n : Nat), xs = [.list (ds.map PyData.int), .int q, .int n] ∧ Drawn ds ∧ szOk q n,
  fun xs r yss => ∀ (q n : Nat), xs[1]? = some (.int q) → xs[2]? = some (.int n) → ∃ (ws : List (List Nat)) (ds : List Int), r = .list (ws.map sw) ∧ Wds q n ws ∧ ws.length ≤ 256 ∧ 1 ≤ ws.length ∧ Drawn ds ∧ yss = [ds.map PyData.int]⟩
/-! _law_many: 0 _law_draws_here, 1 _law_q, 2 _law_n, 3 _law_every, 4 _law_start, 5 _law_step, 6 _law_found, 7 _law_k -/
def t__law_many : VS := (tSCons (tAsgV 3 (vT (tCallF f__law_all (tACons (tvar 1) (tACons (tvar 2) tANil)))))
    (tSCons (tAsgT [4, 5] (vT (tTupD (tACons (vT (tBin .mod (vT (tCallF f__law_pop (tACons (tvar 0) tANil))) (vT (tBlt .len (tACons (tvar 3) tANil))))) (tACons (vT (tBin .add (vT (tcon (.int 1))) (vT (tBin .mul (vT (tcon (.int 6))) (vT (tBin .mod (vT (tCallF f__law_pop (tACons (tvar 0) tANil))) (vT (tcon (.int 40))))))))) tANil)))))
    (tSCons (tAsgV 6 (vT (tLcV (.one 7) (tRng1 (vT (tBlt .len (tACons (tvar 3) tANil)))) tYesV (vT (tIx (tvar 3) (vT (tBin .mod (vT (tBin .add (tvar 4) (vT (tBin .mul (tvar 5) (tvar 7))))) (vT (tBlt .len (tACons (tvar 3) tANil))))))))))
    (tSCons (tRetN (tSlL (tvar 6) tONo (tOSo (vT (tBin .sub (vT (tBlt .len (tACons (tvar 3) tANil))) (vT (tBin .mod (vT (tCallF f__law_pop (tACons (tvar 0) tANil))) (vT (tIx (vT (tLstD (tACons (vT (tcon (.int 1))) (tACons (vT (tBlt .len (tACons (tvar 3) tANil))) tANil)))) (vT (tBin .mod (vT (tCallF f__law_pop (tACons (tvar 0) tANil))) (vT (tcon (.int 2))))))))))))))
    tSNil))))
theorem sws_at {ws : List (List Nat)} {k : Int} (h0 : 0 ≤ k) (h : k < ws.length) : ∃ w, atI (ws.map sw) k = some (sw w) ∧ w ∈ ws ∧ ws[k.toNat]? = some w := by
  obtain ⟨j, rfl⟩ := Int.eq_ofNat_of_zero_le h0
  have hj : j < ws.length := by simpa using h
  refine ⟨ws[j], atI_nat ?_, List.getElem_mem hj, by simp [hj]⟩
  rw [List.getElem?_map, List.getElem?_eq_getElem hj]
  rfl
theorem map_sw_of {α : Type} {f : α → D} {as : List α} {P : List Nat → Prop} (h : ∀ a ∈ as, ∃ w, f a = sw w ∧ P w) : ∃ ws : List (List Nat), as.map f = ws.map sw ∧ ws.length = as.length ∧ ∀ w ∈ ws, P w := by
  induction as with
  | nil => exact ⟨[], rfl, rfl, fun _ h => absurd h (by simp)⟩
  | cons a as ih =>
    obtain ⟨w, e, p⟩ := h a List.mem_cons_self
    obtain ⟨ws, e2, e3, e4⟩ := ih fun b hb => h b (List.mem_cons_of_mem _ hb)
    refine ⟨w :: ws, by rw [List.map_cons, e, e2]; rfl, by simp [e3], fun x hx => ?_⟩
    rcases List.mem_cons.mp hx with z | z
    · rw [z]; exact p
    · exact e4 x z
theorem plain__law_many : Plain f__law_many 8 t__law_many := by
  rintro xs ρ ⟨ds, q, n, rfl, hd, hs⟩ hi
  cases hi
  have hq2 := hs.q2
  refine ⟨rfl, ⟨q, n, rfl, hs⟩, fun r yss h => ?_⟩
  obtain ⟨rfl, rfl⟩ := h q n rfl
  refine ⟨rfl, ⟨ds, rfl, hd⟩, fun r yss h => ?_⟩
  obtain ⟨c1, ds1, rfl, hc1, hd1, rfl⟩ := h
  have hL := allL_len q n
  have hp := pow_le hs
  have hp1 : 1 ≤ q ^ n := Nat.le_trans Nat.one_le_two_pow (Nat.pow_le_pow_left hq2 n)
  have hlen : (((allL q n).map sw).length : Int) = ((q ^ n : Nat) : Int) := by rw [List.length_map, hL]
  refine ⟨by rw [hlen]; omega, rfl, ⟨ds1, rfl, hd1⟩, fun r yss h => ?_⟩
  obtain ⟨c2, ds2, rfl, hc2, hd2, rfl⟩ := h
  refine ⟨by decide, mul_l ⟨by decide, by decide⟩, sz_le (by simp), ?_⟩
  refine ⟨by rw [hlen]; omega, by rw [hlen]; omega, rfl, rfl, ?_⟩
  have hpos : (0 : Int) < (((allL q n).map sw).length : Int) := by rw [hlen]; omega
  generalize hst : ((c1 : Nat) : Int) % (((allL q n).map sw).length : Int) = st
  generalize hsp : (1 : Int) + 6 * (((c2 : Nat) : Int) % 40) = sp
  have hsp' : -(2 ^ 64) < sp ∧ sp < 2 ^ 64 := by omega
  have pick : ∀ k : Nat, ∃ w, atI ((allL q n).map sw) ((st + sp * ((k : Nat) : Int)) % (((allL q n).map sw).length : Int)) = some (sw w) ∧ w ∈ allL q n := fun k => by
    obtain ⟨w, h1, h2, _⟩ := sws_at (ws := allL q n) (k := (st + sp * ((k : Nat) : Int)) % (((allL q n).map sw).length : Int)) (Int.emod_nonneg _ (by omega)) (by
      have := Int.emod_lt_of_pos (st + sp * ((k : Nat) : Int)) hpos
      rw [List.length_map] at this ⊢
      exact this)
    exact ⟨w, h1, h2⟩
  refine lc_map (fun i : Nat => [PyData.int (i : Nat)]) (fun k => (atI ((allL q n).map sw) ((st + sp * ((k : Nat) : Int)) % (((allL q n).map sw).length : Int))).getD .none) (List.range (q ^ n)) (by rw [hlen]; exact rng0 _) guard_nil (fun k hk => ?_) (sz_le (by simp; omega)) ?_
  · obtain ⟨w, h1, h2⟩ := pick k
    refine ⟨_, rfl, rfl, fun K k2 => ⟨mul_l hsp', hpos, _, h1, ?_⟩⟩
    rw [h1] at k2
    exact k2
  obtain ⟨ws, e1, e2, e3⟩ := map_sw_of (as := List.range (q ^ n)) (f := fun k => (atI ((allL q n).map sw) ((st + sp * ((k : Nat) : Int)) % (((allL q n).map sw).length : Int))).getD .none) (P := fun w => w ∈ allL q n) (fun k hk => by
    obtain ⟨w, h1, h2⟩ := pick k
    exact ⟨w, by rw [h1]; rfl, h2⟩)
  rw [e1]
  rw [List.length_range] at e2
  refine ⟨rfl, ⟨ds2, rfl, hd2⟩, fun r yss h => ?_⟩
  obtain ⟨c3, ds3, rfl, hc3, hd3, rfl⟩ := h
  refine ⟨sz_le (by simp), rfl, ⟨ds3, rfl, hd3⟩, fun r yss h => ?_⟩
  obtain ⟨c4, ds4, rfl, hc4, hd4, rfl⟩ := h
  have two : ∃ b : Int, atI [PyData.int 1, PyData.int (((allL q n).map sw).length : Int)] (((c4 : Nat) : Int) % 2) = some (.int b) ∧ 0 < b ∧ b ≤ (q ^ n : Nat) := by
    have h2 : ((c4 : Nat) : Int) % 2 = 0 ∨ ((c4 : Nat) : Int) % 2 = 1 := by omega
    rcases h2 with h2 | h2
    · rw [h2]
      exact ⟨1, rfl, by decide, by omega⟩
    · rw [h2]
      exact ⟨_, rfl, hpos, by omega⟩
  obtain ⟨b, hb, hb0, hb1⟩ := two
  refine ⟨by decide, _, hb, hb0, ?_⟩
  have hm0 := Int.emod_nonneg ((c3 : Nat) : Int) (show b ≠ 0 by omega)
  have hm1 := Int.emod_lt_of_pos ((c3 : Nat) : Int) hb0
  obtain ⟨j, hj⟩ : ∃ j : Nat, (((allL q n).map sw).length : Int) - ((c3 : Nat) : Int) % b = (j : Nat) := Int.eq_ofNat_of_zero_le (by omega)
  show ∃ yss, f__law_many.post _ (.list (cutD (ws.map sw) none (some ((((allL q n).map sw).length : Int) - ((c3 : Nat) : Int) % b)))) yss ∧ _
  rw [hj, cut_sws]
  refine ⟨_, fun q' n' e1 e2 => ?_, .cons rfl .nil⟩
  have e1 : some (PyData.int q) = some (PyData.int q') := e1
  have e2 : some (PyData.int n) = some (PyData.int n') := e2
  cases e1
  cases e2
  refine ⟨ws.take j, ds4, rfl, fun w hw => mem_allL.mp (e3 w (List.take_subset _ _ hw)), ?_, ?_, hd4, rfl⟩
  · rw [List.length_take]
    omega
  · rw [List.length_take]
    omega
end WA

/-! WP4: counts. -/
namespace WA
open PySem PySem.Spec PyProof.Rows L2
def ni (x : Nat) : D := .int (x : Nat)
theorem nis (l : List Nat) : l.map ni = (l.map fun x : Nat => (x : Int)).map PyData.int := by
  rw [List.map_map]
  rfl
theorem okD_nis {l : List Nat} : ∀ x ∈ l.map ni, okD x = true := fun x hx => by
  obtain ⟨i, _, rfl⟩ := List.mem_map.mp hx
  rfl
theorem eqv_ni (a b : Nat) : PyData.eqv (ni a) (ni b) = decide (a = b) := by
  unfold ni
  rw [eqv_int]
  by_cases e : a = b
  · simp [e]
  · have : ¬ (a : Int) = (b : Int) := by omega
    simp [e, this]
theorem eqv_nis (a b : List Nat) : PyData.eqv (.list (a.map ni)) (.list (b.map ni)) = decide (a = b) := eqvAll_map eqv_ni a b
/-- the distances of all ordered pairs -/
def pairsH (ws vs : List (List Nat)) : List Nat := ws.flatMap fun a => vs.map fun b => ham a b
/-- how often each -/
def cn (n : Nat) (l : List Nat) : List Nat := (List.range (n + 1)).map fun i => l.count i
def cntL (n : Nat) (ws : List (List Nat)) : List Nat := cn n (pairsH ws ws)
theorem cn_len (n : Nat) (l : List Nat) : (cn n l).length = n + 1 := by simp [cn]
theorem cn_at {n x : Nat} (l : List Nat) (h : x ≤ n) : ((cn n l).map ni)[x]? = some (ni (l.count x)) := by
  unfold cn
  rw [List.getElem?_map, List.getElem?_map, List.getElem?_range (by omega)]
  rfl
theorem cn_set {n x : Nat} (l : List Nat) (h : x ≤ n) : ((cn n l).map ni).set x (.int ((l.count x : Nat) + 1 : Int)) = (cn n (l ++ [x])).map ni := by
  have e : (PyData.int ((l.count x : Nat) + 1 : Int)) = ni (l.count x + 1) := rfl
  rw [e, ← List.map_set]
  congr 1
  refine List.ext_getElem? fun i => ?_
  unfold cn
  by_cases hi : i < n + 1
  · rw [List.getElem?_map, List.getElem?_range hi]
    by_cases hx : i = x
    · subst hx
      rw [List.getElem?_set_self (by simp; omega)]
      simp [List.count_append]
    · rw [List.getElem?_set_ne (fun z => hx z.symm), List.getElem?_map, List.getElem?_range hi]
      simp [List.count_append, List.count_singleton]
      omega
  · rw [List.getElem?_eq_none (by simp; omega), List.getElem?_eq_none (by simp; omega)]
theorem cntL_rev (n : Nat) (ws : List (List Nat)) : cntL n ws.reverse = cntL n ws := by
  unfold cntL cn
  refine List.map_congr_left fun i _ => ?_
  unfold pairsH
  rw [List.count_flatMap, List.count_flatMap, ((List.reverse_perm ws).map _).sum_nat]
  congr 1
  refine List.map_congr_left fun a _ => ?_
  exact ((List.reverse_perm ws).map _).count_eq i
def cntS (nm : Str) : FSpec := ⟨nm, [.val, .ro], true, fun xs => ∃ (n : Nat) (ws : List (List Nat)), xs = [.int n, .list (ws.map sw)] ∧ Len n ws ∧ n ≤ 100 ∧ ws.length ≤ 300, fun xs r yss => ∀ (n : Nat) (ws : List (List Nat)), xs = [.int n, .list (ws.map sw)] → r = .list ((cntL n ws).map ni) ∧ yss = []⟩
def f_counts : FSpec := cntS "counts"
/-! counts: 0 n, 1 words, 2 found, 3 word, 4 other, 5 i -/
def t_counts : VS := (tSCons (tAsgO 2 (tLcV (.one 5) (tRng1 (vT (tBin .add (tvar 0) (vT (tcon (.int 1)))))) tYesV (vT (tcon (.int 0)))))
    (tSCons (tFor [1] (.one 3) (tIt (tvar 1)) (tSCons (tFor [1] (.one 4) (tIt (tvar 1)) (tSCons (tAugIx .add 2 (vT (tCallF f_distance (tACons (tvar 3) (tACons (tvar 4) tANil)))) (vT (tcon (.int 1))))
    tSNil))
    tSNil))
    (tSCons (tRetO [] 2)
    tSNil)))
theorem cn_nil (n : Nat) : (List.range (n + 1)).map (fun _ => PyData.int 0) = (cn n []).map ni := by
  unfold cn
  rw [List.map_map]
  rfl
theorem plain_counts : Plain f_counts 6 t_counts := by
  rintro xs ρ ⟨n, ws, rfl, hL, hn, hz⟩ hi
  cases hi
  refine ⟨by omega, by omega, rfl, rfl, ?_⟩
  refine lc_map (fun i : Nat => [PyData.int (i : Nat)]) (fun _ => .int 0) (List.range (n + 1)) (rng0 (n + 1)) guard_nil (fun k hk => ⟨_, rfl, rfl, fun K k => k⟩) (sz_le (by simp; omega)) ?_
  rw [cn_nil]
  refine ⟨rfl, ?_⟩
  refine for_all (fun w => [sw w]) ws (fun p ρ => ∃ s3 s4, ρ = [.v (.int n), .ro false (ws.map sw), .own ((cn n (pairsH p ws)).map ni), s3, s4, .no]) (its_sws ws) ⟨_, _, rfl⟩ (fun p ρ h => ?_) (fun p a r ρ K he hI hK => ?_) (fun ρ hI => ?_)
  · obtain ⟨s3, s4, rfl⟩ := h
    exact guard_one rfl
  · obtain ⟨s3, s4, rfl⟩ := hI
    have ha : a ∈ ws := by rw [he]; simp
    refine ⟨_, rfl, rfl, ?_⟩
    refine for_all (fun w => [sw w]) ws (fun m ρ => ∃ s4, ρ = [.v (.int n), .ro false (ws.map sw), .own ((cn n (pairsH p ws ++ m.map fun b => ham a b)).map ni), .v (sw a), s4, .no]) (its_sws ws) ⟨s4, by simp⟩ (fun p ρ h => ?_) (fun m b r' ρ K' he' hI' hK' => ?_) (fun ρ hI' => ?_)
    · obtain ⟨s4, rfl⟩ := h
      exact guard_one rfl
    · obtain ⟨s4, rfl⟩ := hI'
      have hb : b ∈ ws := by rw [he']; simp
      have hle : ham a b ≤ n := by
        have := ham_le a b
        rw [hL a ha] at this
        exact this
      refine ⟨_, rfl, ⟨_, rfl⟩, rfl, ⟨a, b, rfl, by rw [hL a ha, hL b hb], by rw [hL a ha]; omega⟩, fun r y h => ?_⟩
      obtain ⟨rfl, rfl⟩ := h a b rfl
      refine ⟨ham a b, _, ?_, cn_at _ hle, rfl, ?_⟩
      · rw [List.length_map, cn_len]
        exact ixN_at (by omega) (by omega)
      · show K' [_, _, .own (((cn n (pairsH p ws ++ m.map fun b => ham a b)).map ni).set (ham a b) (.int ((List.count (ham a b) (pairsH p ws ++ m.map fun b => ham a b) : Nat) + 1 : Int))), _, _, _]
        rw [cn_set _ hle, List.append_assoc, show [ham a b] = List.map (fun b => ham a b) [b] from rfl, ← List.map_append]
        exact hK' _ ⟨_, rfl⟩
    · obtain ⟨s4, rfl⟩ := hI'
      rw [show pairsH (p ++ [a]) ws = pairsH p ws ++ ws.map fun b => ham a b by unfold pairsH; simp] at hK
      exact hK _ ⟨_, _, rfl⟩
  · obtain ⟨s3, s4, rfl⟩ := hI
    refine ⟨rfl, [], fun n' ws' e => ?_, .nil⟩
    have e1 : (n : Int) = n' ∧ ws.map sw = ws'.map sw := by simpa using e
    obtain ⟨e2, e3⟩ := e1
    have e2 : n = n' := by omega
    subst e2
    cases sws_inj e3
    exact ⟨rfl, rfl⟩
end WA

/-! WL4: sorted words, signs as numbers, what is in a list. -/
namespace WA
open PySem PySem.Spec PyProof.Rows L2
def leW (a b : List Nat) : Bool := leS (wd a) (wd b)
def srtL (l : List (List Nat)) : List (List Nat) := l.mergeSort leW
theorem srtL_perm (l : List (List Nat)) : (srtL l).Perm l := List.mergeSort_perm _ _
theorem srtL_mem {l : List (List Nat)} {w : List Nat} : w ∈ srtL l ↔ w ∈ l := (srtL_perm l).mem_iff
theorem srtL_len (l : List (List Nat)) : (srtL l).length = l.length := (srtL_perm l).length_eq
theorem sws_eq (ls : List (List Nat)) : ls.map sw = (ls.map wd).map PyData.str := by
  rw [List.map_map]
  rfl
theorem srt_sws (ls : List (List Nat)) : (srt (ls.map wd)).map PyData.str = (srtL ls).map sw := by
  rw [sws_eq]
  congr 1
  exact (List.map_mergeSort (r := leW) (s := leS) (f := wd) (l := ls) (fun a _ b _ => rfl)).symm
theorem leW_trans (a b c : List Nat) (h1 : leW a b = true) (h2 : leW b c = true) : leW a c = true := leS_trans _ _ _ h1 h2
theorem leW_total (a b : List Nat) : (leW a b || leW b a) = true := leS_total _ _
theorem leW_anti {a b : List Nat} (h1 : leW a b = true) (h2 : leW b a = true) : a = b := wd_inj (leS_anti h1 h2)
theorem srtL_pw (l : List (List Nat)) : (srtL l).Pairwise fun a b => leW a b = true := List.pairwise_mergeSort leW_trans leW_total l
theorem srtL_of {xs ys : List (List Nat)} (hp : ys.Perm xs) (hs : ys.Pairwise fun a b => leW a b = true) : ys = srtL xs :=
  List.Perm.eq_of_pairwise (le := fun a b => leW a b = true) (fun _ _ _ _ => leW_anti) hs (srtL_pw xs) (hp.trans (srtL_perm xs).symm)
theorem srtL_same {xs ys : List (List Nat)} (hp : ys.Perm xs) : srtL ys = srtL xs := srtL_of ((srtL_perm ys).trans hp) (srtL_pw ys)
theorem Wds.srt {q n : Nat} {ws : List (List Nat)} (h : Wds q n ws) : Wds q n (srtL ws) := fun w hw => h w (srtL_mem.mp hw)
theorem int_sign {s : Nat} (h : s < 10) : PySem.intText? (wd [s]) = some (s : Int) := by
  have : s = 0 ∨ s = 1 ∨ s = 2 ∨ s = 3 ∨ s = 4 ∨ s = 5 ∨ s = 6 ∨ s = 7 ∨ s = 8 ∨ s = 9 := by omega
  rcases this with rfl | rfl | rfl | rfl | rfl | rfl | rfl | rfl | rfl | rfl <;> decide +kernel
theorem all_flat (ws : List (List Nat)) : (ws.map sw).all flatD = true := by
  rw [List.all_eq_true]
  intro x hx
  obtain ⟨w, _, rfl⟩ := List.mem_map.mp hx
  rfl
theorem inD_sws (w : List Nat) (ws : List (List Nat)) : inD (sw w) (ws.map sw) = decide (w ∈ ws) := by
  unfold inD
  rw [List.any_map]
  by_cases h : w ∈ ws
  · rw [decide_eq_true h, List.any_eq_true]
    exact ⟨w, h, by show PyData.eqv (sw w) (sw w) = true; rw [eqv_sw]; simp⟩
  · rw [decide_eq_false h, List.any_eq_false]
    intro x hx
    show ¬ PyData.eqv (sw x) (sw w) = true
    rw [eqv_sw]
    simp
    rintro rfl
    exact h hx
theorem cut_from (ws : List (List Nat)) (k : Nat) : cutD (ws.map sw) (some (k : Int)) none = (ws.drop k).map sw := by
  unfold cutD
  rw [HT.sIx_none, HT.sIx_nat, List.length_map, List.map_drop, List.take_of_length_le (by rw [List.length_drop, List.length_map]; exact Nat.le_refl _)]
  rcases Nat.le_total k ws.length with h | h
  · rw [Nat.min_eq_left h]
  · rw [Nat.min_eq_right h, List.drop_eq_nil_of_le (by rw [List.length_map]; exact Nat.le_refl _), List.drop_eq_nil_of_le (by rw [List.length_map]; exact h)]
theorem eqv_sws_nil (ws : List (List Nat)) : PyData.eqv (.list (ws.map sw)) (.list []) = decide (ws = []) := eqv_sws _ []
def f__law_texts : FSpec := ⟨"_law_texts", [.rs], false, fun xs => ∃ ls : List (List Nat), xs = [.list (ls.map sw)] ∧ ls.length ≤ 100000, fun _ r yss => r = .bool true ∧ yss = []⟩
/-! _law_texts: 0 _law_found, 1 _law_one -/
def t__law_texts : VS := (tSCons (tRetV (tAnd2 (vT (tIsi .list (tvar 0))) (vT (tCmp .eq (vT (tLcV (.one 1) (tIt (tvar 0)) (cOf (vT (tNt (vT (tIsi .str (tvar 1)))))) (tvar 1))) (vT (tLstD tANil))))))
    tSNil)
theorem plain__law_texts : Plain f__law_texts 2 t__law_texts := by
  rintro xs ρ ⟨ls, rfl, hl⟩ hi
  cases hi
  refine ⟨rfl, fun _ => ?_, fun h => by cases h⟩
  refine ⟨rfl, rfl, ?_⟩
  refine lc_go (fun w => [sw w]) (fun _ => false) (fun _ => .none) (guard_one rfl) ls (by simp) (fun a ha => ⟨_, rfl, rfl, fun K k => ⟨rfl, k⟩, fun z => by cases z⟩) (sz_le (by simp; omega)) ?_
  rw [List.filter_eq_nil_iff.mpr (by simp)]
  exact ⟨by decide, rfl, [], ⟨rfl, rfl⟩, .nil⟩
/-- the sum of a word's signs -/
def sumI (w : List Nat) : Int := (w.map fun s : Nat => (s : Int)).sum
theorem snoc_pop (ws : List (List Nat)) (hne : ws ≠ []) : (ws.map sw)[(ws.map sw).length - 1]? = some (sw (ws.getLast hne)) := by
  rw [List.length_map, List.getElem?_map, ← List.getLast?_eq_getElem?, List.getLast?_eq_some_getLast hne]
  rfl
end WA

/-! WP5: taken_on, in_order, heard, reach. -/
namespace WA
open PySem PySem.Spec PyProof.Rows L2
/-- far enough from all -/
def freeB (d : Int) (f : List (List Nat)) (w : List Nat) : Bool := !(f.any fun o => decide (((ham w o : Nat) : Int) < d))
def takeS (d : Int) (f : List (List Nat)) (w : List Nat) : List (List Nat) := if freeB d f w = true then f ++ [w] else f
def takeL (d : Int) (ws all : List (List Nat)) : List (List Nat) := all.foldl (takeS d) ws
theorem takeL_snoc (d : Int) (ws p : List (List Nat)) (w : List Nat) : takeL d ws (p ++ [w]) = takeS d (takeL d ws p) w := by
  unfold takeL
  rw [List.foldl_append]
  rfl
theorem takeL_sub (d : Int) : ∀ (all ws : List (List Nat)), (∀ x ∈ takeL d ws all, x ∈ ws ∨ x ∈ all) ∧ (∀ x ∈ ws, x ∈ takeL d ws all) ∧ (takeL d ws all).length ≤ ws.length + all.length
  | [], ws => ⟨fun x h => .inl h, fun x h => h, Nat.le_refl _⟩
  | a :: r, ws => by
    obtain ⟨h1, h2, h3⟩ := takeL_sub d r (takeS d ws a)
    have e : takeL d ws (a :: r) = takeL d (takeS d ws a) r := rfl
    have hs : (∀ x ∈ takeS d ws a, x ∈ ws ∨ x = a) ∧ (∀ x ∈ ws, x ∈ takeS d ws a) ∧ (takeS d ws a).length ≤ ws.length + 1 := by
      unfold takeS
      split
      · exact ⟨fun x h => by simpa using h, fun x h => List.mem_append_left _ h, by simp⟩
      · exact ⟨fun x h => .inl h, fun x h => h, by omega⟩
    rw [e]
    refine ⟨fun x hx => ?_, fun x hx => h2 x (hs.2.1 x hx), by have := hs.2.2; simp only [List.length_cons]; omega⟩
    rcases h1 x hx with z | z
    · rcases hs.1 x z with y | y
      · exact .inl y
      · exact .inr (by rw [y]; exact List.mem_cons_self)
    · exact .inr (List.mem_cons_of_mem _ z)
/-- what taken_on tells -/
def tOn (q n : Nat) (d : Int) (ws : List (List Nat)) : List (List Nat) := srtL (takeL d ws (allL q n))
theorem tOn_wds {q n : Nat} {d : Int} {ws : List (List Nat)} (h : Wds q n ws) : Wds q n (tOn q n d ws) := fun w hw => by
  rcases (takeL_sub d (allL q n) ws).1 w (srtL_mem.mp hw) with z | z
  · exact h w z
  · exact mem_allL.mp z
theorem tOn_len {q n : Nat} {d : Int} {ws : List (List Nat)} (hs : szOk q n) : (tOn q n d ws).length ≤ ws.length + 256 := by
  unfold tOn
  rw [srtL_len]
  have := (takeL_sub d (allL q n) ws).2.2
  have h1 := allL_len q n
  have h2 := pow_le hs
  omega
def takenS (nm : Str) : FSpec := ⟨nm, [.val, .val, .val, .ro], true,
  fun xs => ∃ (q n : Nat) (d : Int) (ws : List (List Nat)), xs = [.int q, .int n, .int d, .list (ws.map sw)] ∧ szOk q n ∧ Wds q n ws ∧ ws.length ≤ 1000,
  fun xs r yss => ∀ (q n : Nat) (d : Int) (ws : List (List Nat)), xs = [.int q, .int n, .int d, .list (ws.map sw)] → r = .list ((tOn q n d ws).map sw) ∧ yss = []⟩
def f_taken_on : FSpec := takenS "taken_on"
/-! taken_on: 0 q, 1 n, 2 d, 3 words, 4 found, 5 word, 6 one -/
def t_taken_on : VS := (tSCons (tAsgO 4 (tLs (tvar 3)))
    (tSCons (tFor [] (.one 5) (tIt (vT (tCallF f_all_words (tACons (tvar 0) (tACons (tvar 1) tANil))))) (tSCons (tIf (cOf (vT (tNt (vT (tBlt .any (tACons (vT (tLcV (.one 6) (tIt (tvar 4)) tYesV (vT (tCmp .lt (vT (tCallF f_distance (tACons (tvar 5) (tACons (tvar 6) tANil)))) (tvar 2))))) tANil)))))) (tSCons (tExp (vT (tApp 4 (tvar 5))))
    tSNil) tSNil)
    tSNil))
    (tSCons (tRetN (tSrt (tvar 4)))
    tSNil)))
theorem free_bools {d : Int} {f : List (List Nat)} {w : List Nat} : (f.map fun o => PyData.bool (decide (((ham w o : Nat) : Int) < d))) = (f.map fun o => decide (((ham w o : Nat) : Int) < d)).map PyData.bool := by
  rw [List.map_map]
  rfl
theorem plain_taken_on : Plain f_taken_on 7 t_taken_on := by
  rintro xs ρ ⟨q, n, d, ws, rfl, hs, hw, hl⟩ hi
  cases hi
  have hq3 := hs.q3
  have hn8 := hs.n8
  refine ⟨rfl, ⟨q, n, rfl, hs⟩, fun r y h => ?_⟩
  obtain ⟨rfl, rfl⟩ := h q n rfl
  have hal := allL_len q n
  have hp := pow_le hs
  refine ⟨rfl, ?_⟩
  refine for_all (fun w => [sw w]) (allL q n) (fun p ρ => p.length ≤ 256 ∧ (∀ x ∈ p, x ∈ allL q n) ∧ ∃ s5, ρ = [.v (.int q), .v (.int n), .v (.int d), .ro false (ws.map sw), .own ((takeL d ws p).map sw), s5, .no]) (its_sws _) ⟨by simp, fun _ h => absurd h (by simp), .no, rfl⟩ (fun _ _ _ => guard_nil) (fun p w r ρ K he hI hK => ?_) (fun ρ hI => ?_)
  · obtain ⟨hpl, hpm, s5, rfl⟩ := hI
    obtain ⟨t1, t2, t3⟩ := takeL_sub d p ws
    have hwm : w ∈ allL q n := by rw [he]; simp
    have hww := mem_allL.mp hwm
    have hpl' : p.length + 1 ≤ 256 := by
      have := congrArg List.length he
      simp at this
      omega
    have hpm' : ∀ x ∈ p ++ [w], x ∈ allL q n := fun x hx => by
      rcases List.mem_append.mp hx with z | z
      · exact hpm x z
      · rw [List.mem_singleton.mp z]; exact hwm
    have hf : Wds q n (takeL d ws p) := fun x hx => by
      rcases t1 x hx with z | z
      · exact hw x z
      · exact mem_allL.mp (hpm x z)
    rw [takeL_snoc] at hK
    refine ⟨_, rfl, rfl, rfl, ?_⟩
    refine lc_map (fun w => [sw w]) (fun o => PyData.bool (decide (((ham w o : Nat) : Int) < d))) (takeL d ws p) (its_sws _) (guard_one rfl) (fun o ho => ?_) (sz_le (by omega)) ?_
    · refine ⟨_, rfl, rfl, fun K k => ⟨rfl, ⟨w, o, rfl, by rw [hww.1, (hf o ho).1], by rw [hww.1]; omega⟩, fun r y h => ?_⟩⟩
      obtain ⟨rfl, rfl⟩ := h w o rfl
      exact k
    · refine ⟨_, free_bools, ?_⟩
      have e : (!(List.map (fun o => decide (((ham w o : Nat) : Int) < d)) (takeL d ws p)).any id) = freeB d (takeL d ws p) w := by
        unfold freeB
        rw [List.any_map]
        rfl
      show ((!(List.map (fun o => decide (((ham w o : Nat) : Int) < d)) (takeL d ws p)).any id) = true → _) ∧ ((!(List.map (fun o => decide (((ham w o : Nat) : Int) < d)) (takeL d ws p)).any id) = false → _)
      rw [e]
      refine ⟨fun hb => ?_, fun hb => ?_⟩
      · have e2 : takeS d (takeL d ws p) w = takeL d ws p ++ [w] := if_pos hb
        rw [e2] at hK
        refine ⟨⟨_, rfl⟩, sz_lt (by rw [List.length_map]; omega), ?_⟩
        show K [_, _, _, _, .own ((takeL d ws p).map sw ++ [sw w]), _, _]
        rw [snoc_sws]
        exact hK _ ⟨by simp; omega, hpm', _, rfl⟩
      · have e2 : takeS d (takeL d ws p) w = takeL d ws p := if_neg (by rw [hb]; exact Bool.false_ne_true)
        rw [e2] at hK
        exact hK _ ⟨by simp; omega, hpm', _, rfl⟩
  · obtain ⟨_, _, s5, rfl⟩ := hI
    refine ⟨(takeL d ws (allL q n)).map wd, sws_eq _, ?_⟩
    rw [srt_sws]
    refine ⟨[], fun q' n' d' ws' e => ?_, .nil⟩
    have e1 : (q : Int) = q' ∧ (n : Int) = n' ∧ d = d' ∧ ws.map sw = ws'.map sw := by simpa using e
    obtain ⟨e2, e3, rfl, e4⟩ := e1
    have e2 : q = q' := by omega
    have e3 : n = n' := by omega
    subst e2 e3
    cases sws_inj e4
    exact ⟨rfl, rfl⟩
def f_in_order : FSpec := ⟨"in_order", [.val, .val, .val], true, fun xs => ∃ (q n : Nat) (d : Int), xs = [.int q, .int n, .int d] ∧ szOk q n, fun xs r yss => ∀ (q n : Nat) (d : Int), xs = [.int q, .int n, .int d] → r = .list ((tOn q n d []).map sw) ∧ yss = []⟩
/-! in_order: 0 q, 1 n, 2 d -/
def t_in_order : VS := (tSCons (tRetN (tCallF f_taken_on (tACons (tvar 0) (tACons (tvar 1) (tACons (tvar 2) (tACons (vT (tLstD tANil)) tANil))))))
    tSNil)
theorem plain_in_order : Plain f_in_order 3 t_in_order := by
  rintro xs ρ ⟨q, n, d, rfl, hs⟩ hi
  cases hi
  refine ⟨by decide, rfl, ⟨q, n, d, [], rfl, hs, fun _ h => absurd h (by simp), by simp⟩, fun r y h => ?_⟩
  obtain ⟨rfl, rfl⟩ := h q n d [] rfl
  refine ⟨[], fun q' n' d' e => ?_, .nil⟩
  have e1 : (q : Int) = q' ∧ (n : Int) = n' ∧ d = d' := by simpa using e
  obtain ⟨e2, e3, rfl⟩ := e1
  have e2 : q = q' := by omega
  have e3 : n = n' := by omega
  subst e2 e3
  exact ⟨rfl, rfl⟩
/-- the least distance of a word from a list -/
def near (ws : List (List Nat)) (w : List Nat) : Nat := (minL (ws.map (ham w))).getD 0
theorem near_spec {ws : List (List Nat)} (h : ws ≠ []) (w : List Nat) : (∃ o ∈ ws, near ws w = ham w o) ∧ ∀ o ∈ ws, near ws w ≤ ham w o := by
  obtain ⟨k, e1, e2, e3⟩ := minL_some (l := ws.map (ham w)) (by simpa using h)
  have e : near ws w = k := by unfold near; rw [e1]; rfl
  rw [e]
  obtain ⟨o, ho, rfl⟩ := List.mem_map.mp e2
  exact ⟨⟨o, ho, rfl⟩, fun o' ho' => e3 _ (List.mem_map.mpr ⟨o', ho', rfl⟩)⟩
theorem near_eq {ws : List (List Nat)} {w : List Nat} {k : Nat} (h1 : ∃ o ∈ ws, k = ham w o) (h2 : ∀ o ∈ ws, k ≤ ham w o) : near ws w = k := by
  unfold near
  rw [minL_eq (l := ws.map (ham w)) (k := k) (by obtain ⟨o, ho, rfl⟩ := h1; exact List.mem_map.mpr ⟨o, ho, rfl⟩) (fun y hy => by obtain ⟨o, ho, rfl⟩ := List.mem_map.mp hy; exact h2 o ho)]
  rfl
def nearL (ws : List (List Nat)) (w : List Nat) : List (List Nat) := srtL (ws.filter fun o => decide (ham w o = near ws w))
def f_heard : FSpec := ⟨"heard", [.ro, .val], false, fun xs => ∃ (n : Nat) (ws : List (List Nat)) (w : List Nat), xs = [.list (ws.map sw), sw w] ∧ Len n ws ∧ w.length = n ∧ n ≤ 1000 ∧ ws ≠ [] ∧ ws.length ≤ 10000,
  fun xs r yss => ∀ (ws : List (List Nat)) (w : List Nat), xs = [.list (ws.map sw), sw w] → r = .tuple [.int (near ws w : Nat), .list ((nearL ws w).map sw)] ∧ yss = []⟩
/-! heard: 0 words, 1 word, 2 least, 3 one -/
def t_heard : VS := (tSCons (tAsgV 2 (vT (tBlt .min1 (tACons (vT (tLcV (.one 3) (tIt (tvar 0)) tYesV (vT (tCallF f_distance (tACons (tvar 1) (tACons (tvar 3) tANil)))))) tANil))))
    (tSCons (tRetV (vT (tTupD (tACons (tvar 2) (tACons (vT (tSrt (vT (tLcV (.one 3) (tIt (tvar 0)) (cOf (vT (tCmp .eq (vT (tCallF f_distance (tACons (tvar 1) (tACons (tvar 3) tANil)))) (tvar 2)))) (tvar 3))))) tANil)))))
    tSNil))
theorem plain_heard : Plain f_heard 4 t_heard := by
  rintro xs ρ ⟨n, ws, w, rfl, hL, hwl, hn, hne, hz⟩ hi
  cases hi
  refine ⟨rfl, rfl, ?_⟩
  refine lc_map (fun w => [sw w]) (fun o => .int (ham w o : Nat)) ws (its_sws _) (guard_one rfl) (fun o ho => ?_) (sz_le (by omega)) ?_
  · refine ⟨_, rfl, rfl, fun K k => ⟨rfl, ⟨w, o, rfl, by rw [hwl, hL o ho], by omega⟩, fun r y h => ?_⟩⟩
    obtain ⟨rfl, rfl⟩ := h w o rfl
    exact k
  refine ⟨ws.map fun o => (ham w o : Int), by rw [List.map_map]; rfl, by rw [List.length_map]; exact List.length_pos_iff.mpr hne, fun m h1 h2 => ?_⟩
  have hm : m = (near ws w : Nat) := by
    obtain ⟨o, ho, rfl⟩ := List.mem_map.mp h1
    have := near_eq (ws := ws) (w := w) (k := ham w o) ⟨o, ho, rfl⟩ fun o' ho' => by
      have := h2 _ (List.mem_map.mpr ⟨o', ho', rfl⟩)
      omega
    rw [this]
  subst hm
  refine ⟨rfl, rfl, ?_⟩
  refine lc_go (fun w => [sw w]) (fun o => decide (ham w o = near ws w)) sw (guard_one rfl) ws (its_sws _) (fun o ho => ?_) (sz_le (by simp; omega)) ?_
  · refine ⟨_, rfl, rfl, fun K k => ⟨rfl, ⟨w, o, rfl, by rw [hwl, hL o ho], by omega⟩, fun r y h => ?_⟩, fun _ K k => k⟩
    obtain ⟨rfl, rfl⟩ := h w o rfl
    refine ⟨rfl, ?_⟩
    have e : PyData.eqv (.int ((ham w o : Nat) : Int)) (.int ((near ws w : Nat) : Int)) = decide (ham w o = near ws w) := by
      rw [eqv_int]
      by_cases z : ham w o = near ws w
      · simp [z]
      · have : ¬ ((ham w o : Nat) : Int) = ((near ws w : Nat) : Int) := by omega
        simp [z, this]
    rw [e]
    exact k
  rw [List.nil_append]
  refine ⟨(ws.filter fun o => decide (ham w o = near ws w)).map wd, sws_eq _, ?_⟩
  rw [srt_sws]
  refine ⟨sz_le (by simp), [], fun ws' w' e => ?_, .nil⟩
  have e1 : ws.map sw = ws'.map sw ∧ sw w = sw w' := by simpa using e
  cases sws_inj e1.1
  cases sw_inj e1.2
  exact ⟨rfl, rfl⟩
/-- the greatest least distance -/
def IsReach (q n : Nat) (ws : List (List Nat)) (m : Nat) : Prop := (∃ w ∈ allL q n, m = near ws w) ∧ ∀ w ∈ allL q n, near ws w ≤ m
def f_reach : FSpec := ⟨"reach", [.val, .val, .ro], false, fun xs => ∃ (q n : Nat) (ws : List (List Nat)), xs = [.int q, .int n, .list (ws.map sw)] ∧ szOk q n ∧ Wds q n ws ∧ ws ≠ [] ∧ ws.length ≤ 10000,
  fun xs r yss => ∀ (q n : Nat) (ws : List (List Nat)), xs = [.int q, .int n, .list (ws.map sw)] → ∃ m : Nat, IsReach q n ws m ∧ r = .int (m : Nat) ∧ yss = []⟩
/-! reach: 0 q, 1 n, 2 words, 3 word -/
def t_reach : VS := (tSCons (tRetV (vT (tBlt .max1 (tACons (vT (tLcV (.one 3) (tIt (vT (tCallF f_all_words (tACons (tvar 0) (tACons (tvar 1) tANil))))) tYesV (vT (tIx (vT (tCallF f_heard (tACons (tvar 2) (tACons (tvar 3) tANil)))) (vT (tcon (.int 0))))))) tANil))))
    tSNil)
theorem allL_ne (q n : Nat) (h : 0 < q) : allL q n ≠ [] := by
  have := allL_len q n
  have h1 : 0 < q ^ n := Nat.pow_pos h
  exact fun z => by rw [z] at this; simp at this; omega
theorem plain_reach : Plain f_reach 4 t_reach := by
  rintro xs ρ ⟨q, n, ws, rfl, hs, hw, hne, hz⟩ hi
  cases hi
  have hn8 := hs.n8
  have hq2 := hs.q2
  refine ⟨rfl, ⟨q, n, rfl, hs⟩, fun r y h => ?_⟩
  obtain ⟨rfl, rfl⟩ := h q n rfl
  have hal := allL_len q n
  have hp := pow_le hs
  refine ⟨rfl, rfl, ?_⟩
  refine lc_map (fun w => [sw w]) (fun w => .int (near ws w : Nat)) (allL q n) (its_sws _) guard_nil (fun w hwm => ?_) (sz_le (by omega)) ?_
  · refine ⟨_, rfl, rfl, fun K k => ⟨rfl, ⟨n, ws, w, rfl, hw.len, (mem_allL.mp hwm).1, by omega, hne, hz⟩, fun r y h => ?_⟩⟩
    obtain ⟨rfl, rfl⟩ := h ws w rfl
    exact ⟨_, rfl, k⟩
  refine ⟨(allL q n).map fun w => (near ws w : Int), by rw [List.map_map]; rfl, by rw [List.length_map]; exact List.length_pos_iff.mpr (allL_ne q n (by omega)), fun m h1 h2 => ?_⟩
  obtain ⟨w, hwm, rfl⟩ := List.mem_map.mp h1
  refine ⟨[], fun q' n' ws' e => ?_, .nil⟩
  have e1 : (q : Int) = q' ∧ (n : Int) = n' ∧ ws.map sw = ws'.map sw := by simpa using e
  obtain ⟨e2, e3, e4⟩ := e1
  have e2 : q = q' := by omega
  have e3 : n = n' := by omega
  subst e2 e3
  cases sws_inj e4
  refine ⟨near ws w, ⟨⟨w, hwm, rfl⟩, fun v hv => ?_⟩, rfl, rfl⟩
  have := h2 _ (List.mem_map.mpr ⟨v, hv, rfl⟩)
  omega
end WA

/-! WP18: lists of lists, compared. -/
namespace WA
open PySem PySem.Spec PyProof.Rows L2
/-- flat, or a list or tuple of flat things -/
def ok2 : D → Bool
  | .list xs => xs.all okD
  | .tuple xs => xs.all okD
  | x => okD x
theorem ok2_lay : ∀ {x : D}, ok2 x = true → PyData.canLay0 x = true ∧ PyData.depth x ≤ 1
  | .none, _ => ⟨rfl, by decide⟩
  | .bool _, _ => ⟨rfl, by simp [PyData.depth]⟩
  | .int _, _ => ⟨rfl, by simp [PyData.depth]⟩
  | .str x, h => ⟨h, by simp [PyData.depth]⟩
  | .list xs, h => by
    obtain ⟨a, b⟩ := flat_lay (xs := xs) fun y hy => List.all_eq_true.mp h y hy
    exact ⟨a, by show PyData.depthAll xs + 1 ≤ 1; omega⟩
  | .tuple xs, h => by
    obtain ⟨a, b⟩ := flat_lay (xs := xs) fun y hy => List.all_eq_true.mp h y hy
    exact ⟨a, by show PyData.depthAll xs + 1 ≤ 1; omega⟩
  | .dict _, h => by cases h
theorem lay2 : ∀ {xs : List D}, (∀ x ∈ xs, ok2 x = true) → PyData.canLayAll0 xs = true ∧ PyData.depthAll xs ≤ 1
  | [], _ => ⟨rfl, by decide⟩
  | x :: xs, h => by
    obtain ⟨a, b⟩ := ok2_lay (h x List.mem_cons_self)
    obtain ⟨c, d⟩ := lay2 (xs := xs) fun y hy => h y (List.mem_cons_of_mem _ hy)
    refine ⟨?_, ?_⟩
    · show (PyData.canLay0 x && PyData.canLayAll0 xs) = true
      rw [a, c]
      rfl
    · show max (PyData.depth x) (PyData.depthAll xs) ≤ 1
      omega
theorem shaped2 {xs : List D} (h : ∀ x ∈ xs, ok2 x = true) : SeqAt.shaped (.list xs) = true := by
  obtain ⟨a, b⟩ := lay2 h
  show (PyData.canLayAll0 xs && decide (PyData.depthAll xs + 1 ≤ 64)) = true
  rw [a, decide_eq_true (by omega)]
  rfl
theorem shaped2t {xs : List D} (h : ∀ x ∈ xs, ok2 x = true) : SeqAt.shaped (.tuple xs) = true := by
  obtain ⟨a, b⟩ := lay2 h
  show (PyData.canLayAll0 xs && decide (PyData.depthAll xs + 1 ≤ 64)) = true
  rw [a, decide_eq_true (by omega)]
  rfl
theorem ok2_sws {q : Nat} {ws : List (List Nat)} (hq : q ≤ 3) (h : ∀ w ∈ ws, Sg q w) : ok2 (.list (ws.map sw)) = true := List.all_eq_true.mpr fun x hx => sg_ok hq h x hx
theorem shaped_pr {q : Nat} {a b : List (List Nat)} (hq : q ≤ 3) (ha : ∀ w ∈ a, Sg q w) (hb : ∀ w ∈ b, Sg q w) : SeqAt.shaped (.list [.list (a.map sw), .list (b.map sw)]) = true := shaped2 fun x hx => by
  rcases List.mem_cons.mp hx with rfl | hx
  · exact ok2_sws hq ha
  · rw [List.mem_singleton.mp hx]
    exact ok2_sws hq hb
theorem eqv_pr (a b c d : List (List Nat)) : PyData.eqv (.list [.list (a.map sw), .list (b.map sw)]) (.list [.list (c.map sw), .list (d.map sw)]) = (decide (a = c) && decide (b = d)) := by
  show (PyData.eqv (.list (a.map sw)) (.list (c.map sw)) && (PyData.eqv (.list (b.map sw)) (.list (d.map sw)) && true)) = _
  rw [eqv_sws, eqv_sws, Bool.and_true]
theorem eqOk_pr {q : Nat} {a b c d : List (List Nat)} (hq : q ≤ 3) (ha : ∀ w ∈ a, Sg q w) (hb : ∀ w ∈ b, Sg q w) (hc : ∀ w ∈ c, Sg q w) (hd : ∀ w ∈ d, Sg q w) : eqOk (.list [.list (a.map sw), .list (b.map sw)]) (.list [.list (c.map sw), .list (d.map sw)]) = true := by
  show (false || (SeqAt.shaped _ && SeqAt.shaped _)) = true
  rw [shaped_pr hq ha hb, shaped_pr hq hc hd]
  rfl
theorem ne_ls {a b : D} (h : PyData.eqv a b = true) {P Q : Prop} (q : Q) : ((!PyData.eqv a b) = true → P) ∧ ((!PyData.eqv a b) = false → Q) := by
  rw [h]
  exact ⟨fun z => (by cases z), fun _ => q⟩
/-! ### what stands in a slot made of two lists -/
theorem contF_own {ρ : R} {m f : Nat} {xs : List D} (h : ρ[m]? = some (.own xs)) : contF (f + 1) ρ m = some (.list xs) := by
  rw [contF, h]
theorem contF_v {ρ : R} {m f : Nat} {x : D} (h : ρ[m]? = some (.v x)) : contF (f + 1) ρ m = some x := by
  rw [contF, h]
theorem contF_al {ρ : R} {m f j : Nat} {x : D} (h : ρ[m]? = some (.al j)) (g : contF f ρ j = some x) : contF (f + 1) ρ m = some x := by
  rw [contF, h]
  exact g
theorem contF_lst2 {ρ : R} {m i j f : Nat} {a b : D} (h : ρ[m]? = some (.st .lst [i, j])) (hi : contF f ρ i = some a) (hj : contF f ρ j = some b) : contF (f + 1) ρ m = some (.list [a, b]) := by
  rw [contF, h]
  simp only [contL, hi, hj, Option.map_some]
theorem vEqP_ne {x y : Option D} {a b : D} {Q : Bool → Prop} (hx : x = some a) (hy : y = some b) (ha : SeqAt.shaped a = true) (hb : SeqAt.shaped b = true) (q : Q (!PyData.eqv a b)) : vEqP .ne x y Q := by
  rw [hx, hy]
  exact ⟨⟨ha, hb⟩, q⟩
theorem vEqP_eq {x y : Option D} {a b : D} {Q : Bool → Prop} (hx : x = some a) (hy : y = some b) (ha : SeqAt.shaped a = true) (hb : SeqAt.shaped b = true) (q : Q (PyData.eqv a b)) : vEqP .eq x y Q := by
  rw [hx, hy]
  exact ⟨⟨ha, hb⟩, q⟩
end WA

namespace K17
open PySem PySem.Spec PyProof.Rows L2 WA
/-! law_k17 -/
def f_heard : FSpec := ⟨"heard", [.ro, .val], .pts .tup (.val (.lst .nil)) .nil, fun xs => ∃ (n : Nat) (ws : List (List Nat)) (w : List Nat), xs = [.list (ws.map sw), sw w] ∧ Len n ws ∧ w.length = n ∧ n ≤ 1000 ∧ ws ≠ [] ∧ ws.length ≤ 10000,
  fun xs r yss => ∀ (ws : List (List Nat)) (w : List Nat), xs = [.list (ws.map sw), sw w] → r = .tuple [.int (near ws w : Nat), .list ((nearL ws w).map sw)] ∧ yss = []⟩
/-! heard: 0 words, 1 word, 2 least, 3 one -/
def t_heard : VS := (tSCons (tAsgV 2 (vT (tBlt .min1 (tACons (vT (tLcV (.one 3) (tIt (tvar 0)) tYesV (vT (tCallF f_distance (tACons (tvar 1) (tACons (tvar 3) tANil)))))) tANil))))
    (tSCons (tRetN (tXD .tup (tXCons (tXV (tvar 2)) (tXCons (tSrt (vT (tLcV (.one 3) (tIt (tvar 0)) (cOf (vT (tCmp .eq (vT (tCallF f_distance (tACons (tvar 1) (tACons (tvar 3) tANil)))) (tvar 2)))) (tvar 3)))) tXNil))))
    tSNil))
theorem eqv_nn (a b : Nat) : PyData.eqv (.int (a : Int)) (.int (b : Int)) = decide (a = b) := by
  rw [eqv_int]
  by_cases z : a = b
  · simp [z]
  · have : ¬ (a : Int) = (b : Int) := by omega
    simp [z, this]
theorem plain_heard : Plain f_heard 4 t_heard := by
  rintro xs ρ ⟨n, ws, w, rfl, hL, hwl, hn, hne, hz⟩ hi
  cases hi
  refine ⟨rfl, rfl, ?_⟩
  refine lc_map (fun w => [sw w]) (fun o => .int (ham w o : Nat)) ws (its_sws _) (guard_one rfl) (fun o ho => ?_) (sz_le (by omega)) ?_
  · refine ⟨_, rfl, rfl, fun K k => ⟨rfl, ⟨w, o, rfl, by rw [hwl, hL o ho], by omega⟩, fun r y h => ?_⟩⟩
    obtain ⟨rfl, rfl⟩ := h w o rfl
    exact k
  refine ⟨ws.map fun o => (ham w o : Int), by rw [List.map_map]; rfl, by rw [List.length_map]; exact List.length_pos_iff.mpr hne, fun m h1 h2 => ?_⟩
  have hm : m = (near ws w : Nat) := by
    obtain ⟨o, ho, rfl⟩ := List.mem_map.mp h1
    have := near_eq (ws := ws) (w := w) (k := ham w o) ⟨o, ho, rfl⟩ fun o' ho' => by
      have := h2 _ (List.mem_map.mpr ⟨o', ho', rfl⟩)
      omega
    rw [this]
  subst hm
  refine ⟨rfl, rfl, ?_⟩
  refine lc_go (fun w => [sw w]) (fun o => decide (ham w o = near ws w)) sw (guard_one rfl) ws (its_sws _) (fun o ho => ?_) (sz_le (by simp; omega)) ?_
  · refine ⟨_, rfl, rfl, fun K k => ⟨rfl, ⟨w, o, rfl, by rw [hwl, hL o ho], by omega⟩, fun r y h => ?_⟩, fun _ K k => k⟩
    obtain ⟨rfl, rfl⟩ := h w o rfl
    refine ⟨rfl, ?_⟩
    rw [eqv_nn]
    exact k
  rw [List.nil_append]
  refine ⟨(ws.filter fun o => decide (ham w o = near ws w)).map wd, sws_eq _, ?_⟩
  rw [srt_sws]
  refine ⟨by show 2 ≤ sizeLine; decide, [], fun ws' w' e => ?_, .nil⟩
  have e1 : ws.map sw = ws'.map sw ∧ sw w = sw w' := by simpa using e
  cases sws_inj e1.1
  cases sw_inj e1.2
  exact ⟨rfl, rfl⟩
/-! all words of a weight -/
def zs (w : List Nat) : Nat := (w.filter fun s => decide (s = 0)).length
theorem cnt_wd : ∀ w : List Nat, cnt 48 (w.map (· + 48)) = (zs w : Nat)
  | [] => rfl
  | s :: w => by
    rw [List.map_cons, cnt_cons, cnt_wd w]
    unfold zs
    by_cases h : s = 0
    · rw [List.filter_cons_of_pos (by simp [h]), if_pos (by omega)]
      simp
      omega
    · rw [List.filter_cons_of_neg (by simp [h]), if_neg (by omega)]
      simp
theorem count_wd (w : List Nat) : Txt.count (wd w) "0" = (zs w : Nat) := by
  have e : ("0" : Str) = ⟨#[48]⟩ := by decide
  rw [e, count_cnt]
  exact cnt_wd w
def wgL (q n m : Nat) : List (List Nat) := (allL q n).filter fun w => decide ((n : Int) - (zs w : Nat) = (m : Nat))
theorem zs_app (a b : List Nat) : zs (a ++ b) = zs a + zs b := by
  unfold zs
  rw [List.filter_append, List.length_append]
theorem wgL_ne {q n m : Nat} (hq : 2 ≤ q) (hm : m ≤ n) : wgL q n m ≠ [] := fun z => by
  have h1 : (List.replicate m 1 ++ List.replicate (n - m) 0) ∈ allL q n := mem_allL.mpr ⟨by simp; omega, fun s hs => by
    rcases List.mem_append.mp hs with h | h
    · rw [(List.mem_replicate.mp h).2]; omega
    · rw [(List.mem_replicate.mp h).2]; omega⟩
  have h2 := List.filter_eq_nil_iff.mp z _ h1
  have e1 : zs (List.replicate m 1) = 0 := by
    unfold zs
    rw [List.length_eq_zero_iff, List.filter_eq_nil_iff]
    intro s hs
    rw [(List.mem_replicate.mp hs).2]
    decide
  have e2 : zs (List.replicate (n - m) 0) = n - m := by
    unfold zs
    rw [List.filter_eq_self.mpr fun s hs => by rw [(List.mem_replicate.mp hs).2]; decide, List.length_replicate]
  rw [zs_app, e1, e2] at h2
  simp at h2
  omega
def f__law_weighing : FSpec := ⟨"_law_weighing", [.val, .val, .val], true, fun xs => ∃ q n m : Nat, xs = [.int q, .int n, .int m] ∧ szOk q n ∧ 2 ≤ q, fun xs r yss => ∀ q n m : Nat, xs = [.int q, .int n, .int m] → r = .list ((wgL q n m).map sw) ∧ yss = []⟩
/-! _law_weighing: 0 _law_q, 1 _law_n, 2 _law_many, 3 _law_found, 4 _law_k, 5 _law_more, 6 _law_word_here, 7 _law_sign -/
def t__law_weighing : VS := (tSCons (tAsgV 3 (vT (tLstD (tACons (vT (tcon (.str ""))) tANil))))
    (tSCons (tFor [] (.one 4) (tRng1 (tvar 1)) (tSCons (tAsgV 5 (vT (tLstD tANil)))
    (tSCons (tFor [] (.one 6) (tIt (tvar 3)) (tSCons (tAsgV 5 (vT (tCat (tvar 5) (vT (tLcV (.one 7) (tItS (vT (tSlS (vT (tcon (.str "012"))) tONo (tOSo (tvar 0))))) tYesV (vT (tBin .add (tvar 6) (tvar 7))))))))
    tSNil))
    (tSCons (tMv false [] 3 5)
    tSNil))))
    (tSCons (tRetN (tLcV (.one 6) (tIt (tvar 3)) (cOf (vT (tCmp .eq (vT (tBin .sub (tvar 1) (vT (tCntS (tvar 6) (vT (tcon (.str "0"))))))) (tvar 2)))) (tvar 6)))
    tSNil)))
theorem signs_q {q : Nat} (h : q = 2 ∨ q = 3) : ((cutS "012" none (some (q : Int))).cps.toList.map fun c => [PyData.str ⟨#[c]⟩]) = (List.range q).map fun s => [sw [s]] := by
  have e : ("012" : Str) = wd [0, 1, 2] := by decide
  rw [e, cutS_to]
  rcases h with rfl | rfl <;> rfl
theorem plain__law_weighing : Plain f__law_weighing 8 t__law_weighing := by
  rintro xs ρ ⟨q, n, m, rfl, hs, hq2⟩ hi
  cases hi
  have hq := hs.q3
  have hn := hs.n8
  refine ⟨by decide, by omega, by omega, rfl, ?_⟩
  refine for_rng0 (fun k ρ => ∃ s4 s5 s6, (s6 = .no ∨ ∃ x, s6 = .v x) ∧ ρ = [.v (.int q), .v (.int n), .v (.int m), .v (.list ((allL q k).map sw)), s4, s5, s6, .no]) ⟨.no, .no, .no, .inl rfl, rfl⟩ (fun _ _ _ => guard_nil) (fun k ρ K hk hI hK => ?_) (fun ρ hI => ?_)
  · obtain ⟨s4, s5, s6, h6, rfl⟩ := hI
    have hpow := pow_le (hs.le (m := k + 1) hk)
    refine ⟨_, rfl, by decide, rfl, ?_⟩
    refine for_all (fun w => [sw w]) (allL q k) (fun p ρ => ∃ s6, (s6 = .no ∨ ∃ x, s6 = .v x) ∧ ρ = [.v (.int q), .v (.int n), .v (.int m), .v (.list ((allL q k).map sw)), .v (.int (k : Nat)), .v (.list ((p.flatMap fun w => (List.range q).map fun s => w ++ [s]).map sw)), s6, .no]) (its_sws _) ⟨s6, h6, rfl⟩ (fun p ρ h => guard_nil) (fun p w r ρ K' he hI hK' => ?_) (fun ρ hI => ?_)
    · obtain ⟨s6, h6, rfl⟩ := hI
      have hw : w ∈ allL q k := by rw [he]; simp
      have hwl := allL_wlen q k w hw
      refine ⟨_, rfl, by show 3 ≤ sizeLine; decide, rfl, rfl, ?_⟩
      refine lc_map (fun s : Nat => [sw [s]]) (fun s => sw (w ++ [s])) (List.range q) (signs_q (by omega)) guard_nil (fun a ha => ?_) (len_le List.length_range (by omega)) ?_
      · refine ⟨_, rfl, rfl, fun K2 k2 => ⟨wd_fit (by simp only [List.length_singleton]; omega), ?_⟩⟩
        rw [wd_app]
        exact k2
      · have ef : ((p ++ [w]).flatMap fun w => (List.range q).map fun s => w ++ [s]) = (p.flatMap fun w => (List.range q).map fun s => w ++ [s]) ++ (List.range q).map fun s => w ++ [s] := by
          rw [List.flatMap_append]
          simp
        rw [ef, List.map_append, List.map_map] at hK'
        refine ⟨rfl, rfl, ?_, hK' _ ⟨_, .inr ⟨_, rfl⟩, rfl⟩⟩
        have := pre_len he
        have := sl1000
        simp only [List.length_map, List.length_range]
        omega
    · obtain ⟨s6, h6, rfl⟩ := hI
      exact hK _ ⟨_, _, s6, h6, rfl⟩
  · obtain ⟨s4, s5, s6, h6, rfl⟩ := hI
    have hpow := pow_le (hs.le (m := n) (by omega))
    have hl := allL_len q n
    refine ⟨rfl, by rcases h6 with rfl | ⟨x, rfl⟩ <;> rfl, ?_⟩
    refine lc_go (fun w => [sw w]) (fun w => decide ((n : Int) - (zs w : Nat) = (m : Nat))) sw guard_nil (allL q n) (its_sws _) (fun o ho => ?_) (sz_le (by simp; omega)) ?_
    · refine ⟨_, rfl, rfl, fun K k => ⟨wd o, rfl, ?_⟩, fun _ K k => k⟩
      refine ⟨rfl, ?_⟩
      show K (PyData.eqv (.int ((n : Int) - Txt.count (wd o) "0")) (.int (m : Int))) _
      rw [count_wd, eqv_int]
      exact k
    · rw [List.nil_append]
      refine ⟨[], fun q' n' m' e => ?_, .nil⟩
      have e1 : (q : Int) = q' ∧ (n : Int) = n' ∧ (m : Int) = m' := by simpa using e
      obtain ⟨e2, e3, e4⟩ := e1
      have e2 : q = q' := by omega
      have e3 : n = n' := by omega
      have e4 : m = m' := by omega
      subst e2 e3 e4
      exact ⟨rfl, rfl⟩
def f_law : FSpec := lawSpec
/-! law: 0 _law_script, 1 _law_draws_here, 2 _law_q, 3 _law_n, 4 _law_words, 5 _law_handed, 6 _law_k, 7 _law_word_here, 8 _law_least, 9 _law_due, 10 _law_turn, 11 _law_found, 12 _law_early, 13 _law_near, 14 _law_one, 15 ?_law_found.0, 16 ?_law_found.1 -/
def t_law_3t : VS := (tSCons (tAsgV 4 (vT (tLstD (tACons (vT (tCallF f__law_word (tACons (vT (tCallF f__law_pop (tACons (tvar 1) tANil))) (tACons (tvar 2) (tACons (tvar 3) tANil))))) tANil))))
    tSNil)
def t_law_4t : VS := (tSCons (tAsgV 4 (vT (tCallF f__law_weighing (tACons (tvar 2) (tACons (tvar 3) (tACons (vT (tBin .mod (vT (tCallF f__law_pop (tACons (tvar 1) tANil))) (vT (tBin .add (tvar 3) (vT (tcon (.int 1))))))) tANil))))))
    tSNil)
def t_law_6b_3b_1t : VS := (tSCons (tRetV (vT (tcon (.bool false))))
    tSNil)
def t_law_6b_3b_2t : VS := (tSCons (tRetV (vT (tcon (.bool false))))
    tSNil)
def t_law_6b_3b_3 : VS := (tSCons (tExp (vT (tAt (pSub (pNm 11) 1) fun i => tApp i (vT (tcon (.str "0"))))))
    tSNil)
def t_law_6b_3b_2 : VS := (tSCons (tIf (cOf (tOr2 (vT (tNt (vT (tCallF f__law_texts (tACons (tPath (pSub (pNm 11) 1)) tANil))))) (tOr2 (vT (tCmp .ne (tPath (pSub (pNm 11) 1)) (tvar 9))) (vT (tCmp .ne (tvar 5) (tvar 4)))))) t_law_6b_3b_2t tSNil)
    t_law_6b_3b_3)
def t_law_6b_3b_1 : VS := (tSCons (tIf (cOf (tOr2 (vT (tNt (vT (tIsiP .tuple (pNm 11))))) (tOr2 (vT (tCmp .ne (vT (tLenP (pNm 11))) (vT (tcon (.int 2))))) (tOr2 (vT (tNt (vT (tCallF f__law_whole (tACons (tPath (pSub (pNm 11) 0)) tANil))))) (vT (tCmp .ne (tPath (pSub (pNm 11) 0)) (tvar 8))))))) t_law_6b_3b_1t tSNil)
    t_law_6b_3b_2)
def t_law_6b_3b : VS := (tSCons (tAsgX (.pts .tup (.val (.lst .nil)) .nil) [11, 15, 16] (tCallF f_heard (tACons (tvar 5) (tACons (tvar 7) tANil))))
    t_law_6b_3b_1)
def t_law_6b_3 : VS := (tSCons (tFor [] (.one 10) (tRng1 (vT (tcon (.int 2)))) t_law_6b_3b)
    tSNil)
def t_law_6b_2 : VS := (tSCons (tAsgV 9 (vT (tSrt (vT (tLcV (.one 14) (tIt (tvar 4)) (cOf (vT (tCmp .eq (vT (tCallF f__law_far (tACons (tvar 14) (tACons (tvar 7) tANil)))) (tvar 8)))) (tvar 14))))))
    t_law_6b_3)
def t_law_6b_1 : VS := (tSCons (tAsgV 8 (vT (tBlt .min1 (tACons (vT (tLcV (.one 14) (tIt (tvar 4)) tYesV (vT (tCallF f__law_far (tACons (tvar 14) (tACons (tvar 7) tANil)))))) tANil))))
    t_law_6b_2)
def t_law_6b : VS := (tSCons (tAsgV 7 (vT (tCallF f__law_word (tACons (vT (tCallF f__law_pop (tACons (tvar 1) tANil))) (tACons (tvar 2) (tACons (tvar 3) tANil))))))
    t_law_6b_1)
def t_law_8t : VS := (tSCons (tExp (vT (tRem 5 (vT (tIx (tvar 9) (vT (tcon (.int 0))))))))
    tSNil)
def t_law_10t : VS := (tSCons (tRetV (vT (tcon (.bool false))))
    tSNil)
def t_law_11 : VS := (tSCons (tRetV (vT (tCmp .eq (tvar 12) (vT (tTupD (tACons (tvar 8) (tACons (tvar 9) tANil)))))))
    tSNil)
def t_law_10 : VS := (tSCons (tIf (cOf (vT (tCmp .ne (vT (tCallF f_heard (tACons (tvar 5) (tACons (tvar 7) tANil)))) (vT (tTupD (tACons (tvar 13) (tACons (vT (tSrt (vT (tLcV (.one 14) (tIt (tvar 5)) (cOf (vT (tCmp .eq (vT (tCallF f__law_far (tACons (tvar 14) (tACons (tvar 7) tANil)))) (tvar 13)))) (tvar 14))))) tANil))))))) t_law_10t tSNil)
    t_law_11)
def t_law_9 : VS := (tSCons (tAsgV 13 (vT (tBlt .min1 (tACons (vT (tLcV (.one 14) (tIt (tvar 5)) tYesV (vT (tCallF f__law_far (tACons (tvar 14) (tACons (tvar 7) tANil)))))) tANil))))
    t_law_10)
def t_law_8 : VS := (tSCons (tIf (cOf (vT (tCmp .gt (vT (tBlt .len (tACons (tvar 5) tANil))) (vT (tcon (.int 1)))))) t_law_8t tSNil)
    t_law_9)
def t_law_7 : VS := (tSCons (tAsgV 12 (vT (tCallF f_heard (tACons (tvar 5) (tACons (tvar 7) tANil)))))
    t_law_8)
def t_law_6 : VS := (tSCons (tFor [] (.one 6) (tRng1 (vT (tcon (.int 8)))) t_law_6b)
    t_law_7)
def t_law_5 : VS := (tSCons (tAsgO 5 (tLs (tvar 4)))
    t_law_6)
def t_law_4 : VS := (tSCons (tIf (cOf (vT (tCmp .eq (vT (tBin .mod (vT (tCallF f__law_pop (tACons (tvar 1) tANil))) (vT (tcon (.int 8))))) (vT (tcon (.int 0)))))) t_law_4t tSNil)
    t_law_5)
def t_law_3 : VS := (tSCons (tIf (cOf (vT (tCmp .eq (tvar 4) (vT (tLstD tANil))))) t_law_3t tSNil)
    t_law_4)
def t_law_2 : VS := (tSCons (tAsgV 4 (vT (tCallF f__law_list (tACons (tvar 1) (tACons (tvar 2) (tACons (tvar 3) (tACons (vT (tcon (.int 15))) (tACons (vT (tcon (.int 1))) tANil))))))))
    t_law_3)
def t_law_1 : VS := (tSCons (tAsgT [2, 3] (vT (tCallF f__law_size (tACons (tvar 1) tANil))))
    t_law_2)
def t_law : VS := (tSCons (tAsgO 1 (tCallF f__law_draws (tACons (tvar 0) (tACons (vT (tcon (.int 2))) (tACons (vT (tcon (.int 40))) tANil)))))
    t_law_1)
section
variable {ns ds : List Int} {q n : Nat} {ws : List (List Nat)} {w : List Nat} {Qn : R → Prop} {Qr : D → R → Prop}
theorem near_sg {q n : Nat} {ws : List (List Nat)} (hw : Wds q n ws) : ∀ v ∈ nearL ws w, Sg q v := fun v hv => (hw v (List.mem_filter.mp (srtL_mem.mp hv)).1).2
theorem near_few : (nearL ws w).length ≤ ws.length := by
  unfold nearL
  rw [srtL_len]
  exact List.length_filter_le _ _
theorem shaped_nr {q i : Nat} {a : List (List Nat)} (hq : q ≤ 3) (ha : ∀ w ∈ a, Sg q w) : SeqAt.shaped (.tuple [.int (i : Int), .list (a.map sw)]) = true := shaped2t fun x hx => by
  rcases List.mem_cons.mp hx with rfl | hx
  · rfl
  · rw [List.mem_singleton.mp hx]
    exact ok2_sws hq ha
theorem eqOk_nr {q i j : Nat} {a b : List (List Nat)} (hq : q ≤ 3) (ha : ∀ w ∈ a, Sg q w) (hb : ∀ w ∈ b, Sg q w) : eqOk (.tuple [.int (i : Int), .list (a.map sw)]) (.tuple [.int (j : Int), .list (b.map sw)]) = true := by
  show (false || (SeqAt.shaped _ && SeqAt.shaped _)) = true
  rw [shaped_nr hq ha, shaped_nr hq hb]
  rfl
theorem eqv_nr (i : Nat) (a : List (List Nat)) : PyData.eqv (.tuple [.int (i : Int), .list (a.map sw)]) (.tuple [.int (i : Int), .list (a.map sw)]) = true := by
  show (PyData.eqv (.int (i : Int)) (.int (i : Int)) && (PyData.eqv (.list (a.map sw)) (.list (a.map sw)) && true)) = true
  rw [eqv_nn, eqv_sws, decide_eq_true rfl, decide_eq_true rfl]
  rfl
/-- the least distance, looked for here -/
theorem least_ok {P : Int → Prop} (hne : ws ≠ []) (h : P ((near ws w : Nat) : Int)) : ∀ m, m ∈ ws.map (fun o => (ham o w : Int)) → (∀ y, y ∈ ws.map (fun o => (ham o w : Int)) → m ≤ y) → P m := fun m h1 h2 => by
  have hm : m = (near ws w : Nat) := by
    obtain ⟨o, ho, rfl⟩ := List.mem_map.mp h1
    have := near_eq (ws := ws) (w := w) (k := ham o w) ⟨o, ho, ham_comm _ _⟩ fun o' ho' => by
      have := h2 _ (List.mem_map.mpr ⟨o', ho', rfl⟩)
      have := ham_comm w o'
      omega
    rw [this]
  rw [hm]
  exact h
theorem nearL_eq : srtL (ws.filter fun o => decide (ham o w = near ws w)) = nearL ws w := by
  unfold nearL
  congr 1
  refine List.filter_congr fun o _ => ?_
  rw [ham_comm]
theorem law_11 (hr : ∀ ρ, Qr (.bool true) ρ) (hq3 : q ≤ 3) (hw : Wds q n ws) {s5 s6 s7 s10 s11 s13 s15 s16 : Sl} :
    t_law_11 [.ro false (ns.map PyData.int), .own (ds.map PyData.int), .v (.int q), .v (.int n), .v (.list (ws.map sw)), s5, s6, s7, .v (.int ((near ws w : Nat) : Int)), .v (.list ((nearL ws w).map sw)), s10, s11, .v (.tuple [.int ((near ws w : Nat) : Int), .list ((nearL ws w).map sw)]), s13, .no, s15, s16] Qn Qr := by
  refine ⟨by show 2 ≤ sizeLine; decide, eqOk_nr hq3 (near_sg hw) (near_sg hw), ?_⟩
  show Qr (.bool (PyData.eqv (.tuple [.int ((near ws w : Nat) : Int), .list ((nearL ws w).map sw)]) (.tuple [.int ((near ws w : Nat) : Int), .list ((nearL ws w).map sw)]))) _
  rw [eqv_nr]
  exact hr _
theorem law_9 (hr : ∀ ρ, Qr (.bool true) ρ) (hq3 : q ≤ 3) (hn : n ≤ 8) (hw : Wds q n ws) (hwl : w.length = n) {us : List (List Nat)} (hu : Wds q n us) (hun : us ≠ []) (hul : us.length ≤ 10000) {s6 s10 s11 s15 s16 : Sl} :
    t_law_9 [.ro false (ns.map PyData.int), .own (ds.map PyData.int), .v (.int q), .v (.int n), .v (.list (ws.map sw)), .own (us.map sw), s6, .v (sw w), .v (.int ((near ws w : Nat) : Int)), .v (.list ((nearL ws w).map sw)), s10, s11, .v (.tuple [.int ((near ws w : Nat) : Int), .list ((nearL ws w).map sw)]), .no, .no, s15, s16] Qn Qr := by
  refine ⟨rfl, rfl, ?_⟩
  refine lc_map (fun w => [sw w]) (fun o => .int (ham o w : Nat)) us (its_sws _) (guard_one rfl) (fun o ho => ?_) (sz_le (by omega)) ?_
  · refine ⟨_, rfl, rfl, fun K k => ⟨rfl, ⟨o, w, rfl, by rw [hwl, (hu o ho).1], by rw [(hu o ho).1]; omega⟩, fun r y h => ?_⟩⟩
    obtain ⟨rfl, rfl⟩ := h o w rfl
    exact k
  refine ⟨us.map fun o => (ham o w : Int), by rw [List.map_map]; rfl, by rw [List.length_map]; exact List.length_pos_iff.mpr hun, least_ok hun ?_⟩
  show t_law_10 [.ro false (ns.map PyData.int), .own (ds.map PyData.int), .v (.int q), .v (.int n), .v (.list (ws.map sw)), .own (us.map sw), s6, .v (sw w), .v (.int ((near ws w : Nat) : Int)), .v (.list ((nearL ws w).map sw)), s10, s11, .v (.tuple [.int ((near ws w : Nat) : Int), .list ((nearL ws w).map sw)]), .v (.int ((near us w : Nat) : Int)), .no, s15, s16] Qn Qr
  refine ⟨rfl, ⟨n, us, w, rfl, hu.len, hwl, by omega, hun, hul⟩, fun r y h => ?_⟩
  obtain ⟨rfl, rfl⟩ := h us w rfl
  refine ⟨rfl, rfl, ?_⟩
  refine lc_go (fun w => [sw w]) (fun o => decide (ham o w = near us w)) sw (guard_one rfl) us (its_sws _) (fun o ho => ?_) (sz_le (by simp; omega)) ?_
  · refine ⟨_, rfl, rfl, fun K k => ⟨rfl, ⟨o, w, rfl, by rw [hwl, (hu o ho).1], by rw [(hu o ho).1]; omega⟩, fun r y h => ?_⟩, fun _ K k => k⟩
    obtain ⟨rfl, rfl⟩ := h o w rfl
    refine ⟨rfl, ?_⟩
    rw [eqv_nn]
    exact k
  rw [List.nil_append]
  refine ⟨(us.filter fun o => decide (ham o w = near us w)).map wd, sws_eq _, ?_⟩
  rw [srt_sws, nearL_eq]
  exact ⟨by show 2 ≤ sizeLine; decide, eqOk_nr hq3 (near_sg hu) (near_sg hu), ne_ls (eqv_nr _ _) (law_11 hr hq3 hw)⟩
theorem erase_wd {ws : List (List Nat)} {v : List Nat} (h : v ∈ ws) : ∃ us : List (List Nat), (ws.map wd).erase (wd v) = us.map wd ∧ (∀ x ∈ us, x ∈ ws) ∧ us.length = ws.length - 1 := by
  obtain ⟨us, h1, h2⟩ := List.sublist_map_iff.mp (List.erase_sublist (a := wd v) (l := ws.map wd))
  refine ⟨us, h2, fun x hx => h1.subset hx, ?_⟩
  have := congrArg List.length h2
  rw [List.length_erase_of_mem (List.mem_map.mpr ⟨v, h, rfl⟩), List.length_map, List.length_map] at this
  exact this.symm
theorem nearL_ne (hne : ws ≠ []) : nearL ws w ≠ [] := fun z => by
  obtain ⟨o, ho, e⟩ := (near_spec hne w).1
  have : o ∈ nearL ws w := srtL_mem.mpr (List.mem_filter.mpr ⟨ho, by simp [e]⟩)
  rw [z] at this
  cases this
theorem law_7 (hr : ∀ ρ, Qr (.bool true) ρ) (hq3 : q ≤ 3) (hn : n ≤ 8) (hw : Wds q n ws) (hwn : ws ≠ []) (hwz : ws.length ≤ 10000) (hwl : w.length = n) {s6 s10 s11 s15 s16 : Sl} :
    t_law_7 [.ro false (ns.map PyData.int), .own (ds.map PyData.int), .v (.int q), .v (.int n), .v (.list (ws.map sw)), .own (ws.map sw), s6, .v (sw w), .v (.int ((near ws w : Nat) : Int)), .v (.list ((nearL ws w).map sw)), s10, s11, .no, .no, .no, s15, s16] Qn Qr := by
  refine ⟨rfl, ⟨n, ws, w, rfl, hw.len, hwl, by omega, hwn, hwz⟩, fun r y h => ?_⟩
  obtain ⟨rfl, rfl⟩ := h ws w rfl
  show t_law_8 [.ro false (ns.map PyData.int), .own (ds.map PyData.int), .v (.int q), .v (.int n), .v (.list (ws.map sw)), .own (ws.map sw), s6, .v (sw w), .v (.int ((near ws w : Nat) : Int)), .v (.list ((nearL ws w).map sw)), s10, s11, .v (.tuple [.int ((near ws w : Nat) : Int), .list ((nearL ws w).map sw)]), .no, .no, s15, s16] Qn Qr
  refine ⟨fun hb => ?_, fun _ => law_9 hr hq3 hn hw hwl hw hwn hwz⟩
  have hb := of_decide_eq_true hb
  rw [List.length_map] at hb
  obtain ⟨v, vs, hv⟩ := List.exists_cons_of_ne_nil (nearL_ne (w := w) hwn)
  have hvm : v ∈ ws := (List.mem_filter.mp (srtL_mem.mp (show v ∈ nearL ws w by rw [hv]; exact List.mem_cons_self))).1
  obtain ⟨us, e1, e2, e3⟩ := erase_wd hvm
  refine ⟨⟨_, rfl⟩, sw v, by rw [hv]; exact atI_nat (j := 0) rfl, ws.map wd, by rw [List.map_map]; rfl, List.mem_map.mpr ⟨v, hvm, rfl⟩, ?_⟩
  show t_law_9 [.ro false (ns.map PyData.int), .own (ds.map PyData.int), .v (.int q), .v (.int n), .v (.list (ws.map sw)), .own (((ws.map wd).erase (wd v)).map PyData.str), s6, .v (sw w), .v (.int ((near ws w : Nat) : Int)), .v (.list ((nearL ws w).map sw)), s10, s11, .v (.tuple [.int ((near ws w : Nat) : Int), .list ((nearL ws w).map sw)]), .no, .no, s15, s16] Qn Qr
  rw [e1, show (us.map wd).map PyData.str = us.map sw by rw [List.map_map]; rfl]
  exact law_9 hr hq3 hn hw hwl (fun x hx => hw x (e2 x hx)) (fun z => by rw [z] at e3; simp at e3; omega) (by omega)
theorem law_6b_3b {k k2 : Nat} {K : R → Prop} (hq3 : q ≤ 3) (hn : n ≤ 8) (hw : Wds q n ws) (hwn : ws ≠ []) (hwz : ws.length ≤ 10000) (hwl : w.length = n) {s11 s15 s16 : Sl}
    (hK : ∀ s11 s15 s16, K [.ro false (ns.map PyData.int), .own (ds.map PyData.int), .v (.int q), .v (.int n), .v (.list (ws.map sw)), .own (ws.map sw), .v (.int (k : Nat)), .v (sw w), .v (.int ((near ws w : Nat) : Int)), .v (.list ((nearL ws w).map sw)), .v (.int (k2 : Nat)), s11, .no, .no, .no, s15, s16]) :
    t_law_6b_3b [.ro false (ns.map PyData.int), .own (ds.map PyData.int), .v (.int q), .v (.int n), .v (.list (ws.map sw)), .own (ws.map sw), .v (.int (k : Nat)), .v (sw w), .v (.int ((near ws w : Nat) : Int)), .v (.list ((nearL ws w).map sw)), .v (.int (k2 : Nat)), s11, .no, .no, .no, s15, s16] K Qr := by
  have few := near_few (ws := ws) (w := w)
  refine ⟨rfl, ⟨n, ws, w, rfl, hw.len, hwl, by omega, hwn, hwz⟩, fun r y h => ?_⟩
  obtain ⟨rfl, rfl⟩ := h ws w rfl
  refine ⟨rfl, ?_⟩
  show t_law_6b_3b_1 [.ro false (ns.map PyData.int), .own (ds.map PyData.int), .v (.int q), .v (.int n), .v (.list (ws.map sw)), .own (ws.map sw), .v (.int (k : Nat)), .v (sw w), .v (.int ((near ws w : Nat) : Int)), .v (.list ((nearL ws w).map sw)), .v (.int (k2 : Nat)), .st .tup [15, 16], .no, .no, .no, .v (.int ((near ws w : Nat) : Int)), .own ((nearL ws w).map sw)] K Qr
  refine ⟨fun h => (by cases h), fun _ => ⟨rfl, fun h => (by cases h), fun _ => ?_⟩⟩
  refine ⟨rfl, ⟨_, rfl⟩, fun r y h => ?_⟩
  obtain ⟨rfl, rfl⟩ := h
  refine ⟨fun h => (by cases h), fun _ => ⟨rfl, ne_ls (by rw [eqv_nn]; simp) ?_⟩⟩
  show t_law_6b_3b_2 [.ro false (ns.map PyData.int), .own (ds.map PyData.int), .v (.int q), .v (.int n), .v (.list (ws.map sw)), .own (ws.map sw), .v (.int (k : Nat)), .v (sw w), .v (.int ((near ws w : Nat) : Int)), .v (.list ((nearL ws w).map sw)), .v (.int (k2 : Nat)), .st .tup [15, 16], .no, .no, .no, .v (.int ((near ws w : Nat) : Int)), .own ((nearL ws w).map sw)] K Qr
  refine ⟨rfl, ⟨nearL ws w, rfl, by omega⟩, fun r y h => ?_⟩
  obtain ⟨rfl, rfl⟩ := h
  refine ⟨fun h => (by cases h), fun _ => ⟨eqOk_list (sg_ok hq3 (near_sg hw)) (sg_ok hq3 (near_sg hw)), ne_ls (by rw [eqv_sws]; simp) ⟨eqOk_list (sg_ok hq3 hw.sg) (sg_ok hq3 hw.sg), ne_ls (by rw [eqv_sws]; simp) ?_⟩⟩⟩
  exact ⟨⟨_, rfl⟩, sz_lt (by simp; omega), hK _ _ _⟩
theorem law_6b {k : Nat} {K : R → Prop} (hd : Drawn ds) (hq2 : 2 ≤ q) (hq3 : q ≤ 3) (hn : n ≤ 8) (hw : Wds q n ws) (hwn : ws ≠ []) (hwz : ws.length ≤ 10000) {s7 s8 s9 s10 s11 s15 s16 : Sl}
    (hK : ∀ (ds : List Int) (w : List Nat) (s10 s11 s15 s16 : Sl), Drawn ds → w.length = n → K [.ro false (ns.map PyData.int), .own (ds.map PyData.int), .v (.int q), .v (.int n), .v (.list (ws.map sw)), .own (ws.map sw), .v (.int (k : Nat)), .v (sw w), .v (.int ((near ws w : Nat) : Int)), .v (.list ((nearL ws w).map sw)), s10, s11, .no, .no, .no, s15, s16]) :
    t_law_6b [.ro false (ns.map PyData.int), .own (ds.map PyData.int), .v (.int q), .v (.int n), .v (.list (ws.map sw)), .own (ws.map sw), .v (.int (k : Nat)), s7, s8, s9, s10, s11, .no, .no, .no, s15, s16] K Qr := by
  refine ⟨rfl, ⟨ds, rfl, hd⟩, fun r yss h => ?_⟩
  obtain ⟨d, ds, rfl, hdd, hd, rfl⟩ := h
  refine ⟨rfl, ⟨d, q, n, rfl, hq2, hq3, by omega⟩, fun r yss h => ?_⟩
  obtain ⟨w, rfl, hww, rfl⟩ := h q n rfl rfl
  show t_law_6b_1 [.ro false (ns.map PyData.int), .own (ds.map PyData.int), .v (.int q), .v (.int n), .v (.list (ws.map sw)), .own (ws.map sw), .v (.int (k : Nat)), .v (sw w), s8, s9, s10, s11, .no, .no, .no, s15, s16] K Qr
  refine ⟨rfl, rfl, ?_⟩
  refine lc_map (fun w => [sw w]) (fun o => .int (ham o w : Nat)) ws (its_sws _) guard_nil (fun o ho => ?_) (sz_le (by omega)) ?_
  · refine ⟨_, rfl, rfl, fun K k => ⟨rfl, ⟨o, w, rfl, by rw [hww.1, (hw o ho).1], by rw [(hw o ho).1]; omega⟩, fun r y h => ?_⟩⟩
    obtain ⟨rfl, rfl⟩ := h o w rfl
    exact k
  refine ⟨ws.map fun o => (ham o w : Int), by rw [List.map_map]; rfl, by rw [List.length_map]; exact List.length_pos_iff.mpr hwn, least_ok hwn ?_⟩
  show t_law_6b_2 [.ro false (ns.map PyData.int), .own (ds.map PyData.int), .v (.int q), .v (.int n), .v (.list (ws.map sw)), .own (ws.map sw), .v (.int (k : Nat)), .v (sw w), .v (.int ((near ws w : Nat) : Int)), s9, s10, s11, .no, .no, .no, s15, s16] K Qr
  refine ⟨rfl, rfl, ?_⟩
  refine lc_go (fun w => [sw w]) (fun o => decide (ham o w = near ws w)) sw guard_nil ws (its_sws _) (fun o ho => ?_) (sz_le (by simp; omega)) ?_
  · refine ⟨_, rfl, rfl, fun K k => ⟨rfl, ⟨o, w, rfl, by rw [hww.1, (hw o ho).1], by rw [(hw o ho).1]; omega⟩, fun r y h => ?_⟩, fun _ K k => k⟩
    obtain ⟨rfl, rfl⟩ := h o w rfl
    refine ⟨rfl, ?_⟩
    rw [eqv_nn]
    exact k
  rw [List.nil_append]
  refine ⟨(ws.filter fun o => decide (ham o w = near ws w)).map wd, sws_eq _, ?_⟩
  rw [srt_sws, nearL_eq]
  show t_law_6b_3 [.ro false (ns.map PyData.int), .own (ds.map PyData.int), .v (.int q), .v (.int n), .v (.list (ws.map sw)), .own (ws.map sw), .v (.int (k : Nat)), .v (sw w), .v (.int ((near ws w : Nat) : Int)), .v (.list ((nearL ws w).map sw)), s10, s11, .no, .no, .no, s15, s16] K Qr
  refine ⟨by decide, by decide, rfl, ?_⟩
  refine for_rng0 (n := 2) (fun k2 ρ => ∃ s10 s11 s15 s16, ρ = [.ro false (ns.map PyData.int), .own (ds.map PyData.int), .v (.int q), .v (.int n), .v (.list (ws.map sw)), .own (ws.map sw), .v (.int (k : Nat)), .v (sw w), .v (.int ((near ws w : Nat) : Int)), .v (.list ((nearL ws w).map sw)), s10, s11, .no, .no, .no, s15, s16]) ⟨_, _, _, _, rfl⟩ (fun _ _ _ => guard_nil) (fun k2 ρ K' hk hI hK' => ?_) (fun ρ hI => ?_)
  · obtain ⟨s10, s11, s15, s16, rfl⟩ := hI
    exact ⟨_, rfl, law_6b_3b hq3 hn hw hwn hwz hww.1 fun s11 s15 s16 => hK' _ ⟨_, _, _, _, rfl⟩⟩
  · obtain ⟨s10, s11, s15, s16, rfl⟩ := hI
    exact hK _ _ _ _ _ _ hd hww.1
theorem law_5 (hr : ∀ ρ, Qr (.bool true) ρ) (hd : Drawn ds) (hq2 : 2 ≤ q) (hq3 : q ≤ 3) (hn : n ≤ 8) (hw : Wds q n ws) (hwn : ws ≠ []) (hwz : ws.length ≤ 10000) :
    t_law_5 [.ro false (ns.map PyData.int), .own (ds.map PyData.int), .v (.int q), .v (.int n), .v (.list (ws.map sw)), .no, .no, .no, .no, .no, .no, .no, .no, .no, .no, .no, .no] Qn Qr := by
  show t_law_6 [.ro false (ns.map PyData.int), .own (ds.map PyData.int), .v (.int q), .v (.int n), .v (.list (ws.map sw)), .own (ws.map sw), .no, .no, .no, .no, .no, .no, .no, .no, .no, .no, .no] Qn Qr
  refine ⟨by decide, by decide, rfl, ?_⟩
  refine for_rng0 (n := 8) (fun k ρ => ∃ (ds : List Int) (s6 s7 s8 s9 s10 s11 s15 s16 : Sl), Drawn ds ∧ (k ≠ 0 → ∃ w : List Nat, w.length = n ∧ s7 = .v (sw w) ∧ s8 = .v (.int ((near ws w : Nat) : Int)) ∧ s9 = .v (.list ((nearL ws w).map sw))) ∧ ρ = [.ro false (ns.map PyData.int), .own (ds.map PyData.int), .v (.int q), .v (.int n), .v (.list (ws.map sw)), .own (ws.map sw), s6, s7, s8, s9, s10, s11, .no, .no, .no, s15, s16]) ⟨ds, .no, .no, .no, .no, .no, .no, .no, .no, hd, fun z => absurd rfl z, rfl⟩ (fun _ _ _ => guard_nil) (fun k ρ K hk hI hK => ?_) (fun ρ hI => ?_)
  · obtain ⟨ds, s6, s7, s8, s9, s10, s11, s15, s16, hd, _, rfl⟩ := hI
    exact ⟨_, rfl, law_6b hd hq2 hq3 hn hw hwn hwz fun ds w s10 s11 s15 s16 hd hwl => hK _ ⟨_, _, _, _, _, _, _, _, _, hd, fun _ => ⟨w, hwl, rfl, rfl, rfl⟩, rfl⟩⟩
  · obtain ⟨ds, s6, s7, s8, s9, s10, s11, s15, s16, hd, hl, rfl⟩ := hI
    obtain ⟨w, hwl, rfl, rfl, rfl⟩ := hl (by decide)
    exact law_7 hr hq3 hn hw hwn hwz hwl
theorem law_4 (hr : ∀ ρ, Qr (.bool true) ρ) (hd : Drawn ds) (hs : szOk q n) (hq2 : 2 ≤ q) (hq3 : q ≤ 3) (hn : n ≤ 8) (hw : Wds q n ws) (hwn : ws ≠ []) (hwz : ws.length ≤ 10000) :
    t_law_4 [.ro false (ns.map PyData.int), .own (ds.map PyData.int), .v (.int q), .v (.int n), .v (.list (ws.map sw)), .no, .no, .no, .no, .no, .no, .no, .no, .no, .no, .no, .no] Qn Qr := by
  refine ⟨rfl, ⟨ds, rfl, hd⟩, fun r yss h => ?_⟩
  obtain ⟨c, ds, rfl, hc, hd, rfl⟩ := h
  refine ⟨by decide, rfl, fun _ => ?_, fun _ => law_5 hr hd hq2 hq3 hn hw hwn hwz⟩
  refine ⟨rfl, ⟨ds, rfl, hd⟩, fun r yss h => ?_⟩
  obtain ⟨d, ds, rfl, hdd, hd, rfl⟩ := h
  refine ⟨by omega, ?_⟩
  have hlt : d % (n + 1) < n + 1 := Nat.mod_lt _ (by omega)
  refine ⟨rfl, ⟨q, n, d % (n + 1), rfl, hs, hq2⟩, fun r yss h => ?_⟩
  obtain ⟨rfl, rfl⟩ := h q n (d % (n + 1)) rfl
  have hpow := pow_le hs
  have hal := allL_len q n
  have hfl := List.length_filter_le (fun w => decide ((n : Int) - (zs w : Nat) = ((d % (n + 1) : Nat) : Int))) (allL q n)
  exact law_5 hr hd hq2 hq3 hn (fun v hv => mem_allL.mp (List.mem_filter.mp hv).1) (wgL_ne hq2 (by omega)) (by unfold wgL; omega)
end
theorem plain_law : Plain f_law 17 t_law := by
  refine plain_of_law fun ns Qn Qr hl hr => ?_
  show t_law [.ro false (ns.map PyData.int), .no, .no, .no, .no, .no, .no, .no, .no, .no, .no, .no, .no, .no, .no, .no, .no] Qn Qr
  refine ⟨rfl, ⟨ns, 2, 40, rfl, hl, by decide, by decide⟩, fun r yss h => ?_⟩
  obtain ⟨ds, rfl, hdl, hd, rfl⟩ := h 40 rfl
  refine ⟨rfl, ⟨ds, rfl, hd⟩, fun r yss h => ?_⟩
  obtain ⟨q, n, ds, rfl, hs, hn1, hd, rfl⟩ := h
  have hq2 : 2 ≤ q := by unfold szOk at hs; omega
  have hq3 : q ≤ 3 := by unfold szOk at hs; omega
  have hn : n ≤ 8 := by unfold szOk at hs; omega
  show t_law_2 [.ro false (ns.map PyData.int), .own (ds.map PyData.int), .v (.int q), .v (.int n), .no, .no, .no, .no, .no, .no, .no, .no, .no, .no, .no, .no, .no] Qn Qr
  refine ⟨rfl, ⟨ds, q, n, 15, 1, rfl, hd, hq2, hq3, by omega, by omega⟩, fun r yss h => ?_⟩
  obtain ⟨ws, ds, rfl, hw, lw, kw, hd, rfl⟩ := h q n 15 1 rfl rfl rfl rfl
  show t_law_3 [.ro false (ns.map PyData.int), .own (ds.map PyData.int), .v (.int q), .v (.int n), .v (.list (ws.map sw)), .no, .no, .no, .no, .no, .no, .no, .no, .no, .no, .no, .no] Qn Qr
  refine ⟨by decide, eqOk_list (sg_ok hq3 hw.sg) (by simp), fun hb => ?_, fun hb => ?_⟩
  · refine ⟨rfl, ⟨ds, rfl, hd⟩, fun r yss h => ?_⟩
    obtain ⟨d, ds, rfl, hdd, hd, rfl⟩ := h
    refine ⟨rfl, ⟨d, q, n, rfl, hq2, hq3, by omega⟩, fun r yss h => ?_⟩
    obtain ⟨w, rfl, hww, rfl⟩ := h q n rfl rfl
    exact ⟨by show 1 ≤ sizeLine; decide, law_4 (ws := [w]) hr hd hs hq2 hq3 hn (fun v hv => by rw [List.mem_singleton.mp hv]; exact hww) (by simp) (by simp)⟩
  · have hne : ws ≠ [] := fun z => by
      have hb : PyData.eqv (.list (ws.map sw)) (.list []) = false := hb
      rw [eqv_sws_nil, decide_eq_true z] at hb
      cases hb
    exact law_4 hr hd hs hq2 hq3 hn hw hne (by omega)

/-! ### the text -/
def topS (i : Nat) : Stmt := PySem.Challenge.pw_wordsapart_k17_words_heard.main.body.getD i (.Pass ⟨0, 0, 0, 0⟩)
abbrev s_distance : Stmt := topS 1
abbrev N_distance : List Str := ["one", "other", "k"]
theorem sc_distance : FnScope N_distance ["one", "other"] (defScope s_distance) := ⟨rfl, rfl, rfl, by decide +kernel, rfl, by decide +kernel, by decide +kernel⟩
abbrev s__law_draws : Stmt := topS 5
abbrev N__law_draws : List Str := ["_law_script", "_law_turn", "_law_many", "_law_cells", "_law_found", "_law_left", "_law_k", "_law_at", "_law_place", "_law_number", "_law_cell"]
theorem sc__law_draws : FnScope N__law_draws ["_law_script", "_law_turn", "_law_many"] (defScope s__law_draws) := ⟨rfl, rfl, rfl, by decide +kernel, rfl, by decide +kernel, by decide +kernel⟩
abbrev s__law_pop : Stmt := topS 6
abbrev N__law_pop : List Str := ["_law_draws_here"]
theorem sc__law_pop : FnScope N__law_pop ["_law_draws_here"] (defScope s__law_pop) := ⟨rfl, rfl, rfl, by decide +kernel, rfl, by decide +kernel, by decide +kernel⟩
abbrev s__law_word : Stmt := topS 8
abbrev N__law_word : List Str := ["_law_number", "_law_q", "_law_n", "_law_word_here", "_law_k"]
theorem sc__law_word : FnScope N__law_word ["_law_number", "_law_q", "_law_n"] (defScope s__law_word) := ⟨rfl, rfl, rfl, by decide +kernel, rfl, by decide +kernel, by decide +kernel⟩
abbrev s__law_far : Stmt := topS 9
abbrev N__law_far : List Str := ["_law_one", "_law_other", "_law_k"]
theorem sc__law_far : FnScope N__law_far ["_law_one", "_law_other"] (defScope s__law_far) := ⟨rfl, rfl, rfl, by decide +kernel, rfl, by decide +kernel, by decide +kernel⟩
abbrev s__law_weighing : Stmt := topS 11
abbrev N__law_weighing : List Str := ["_law_q", "_law_n", "_law_many", "_law_found", "_law_k", "_law_more", "_law_word_here", "_law_sign"]
theorem sc__law_weighing : FnScope N__law_weighing ["_law_q", "_law_n", "_law_many"] (defScope s__law_weighing) := ⟨rfl, rfl, rfl, by decide +kernel, rfl, by decide +kernel, by decide +kernel⟩
abbrev s__law_texts : Stmt := topS 12
abbrev N__law_texts : List Str := ["_law_found", "_law_one"]
theorem sc__law_texts : FnScope N__law_texts ["_law_found"] (defScope s__law_texts) := ⟨rfl, rfl, rfl, by decide +kernel, rfl, by decide +kernel, by decide +kernel⟩
abbrev s__law_whole : Stmt := topS 13
abbrev N__law_whole : List Str := ["_law_found"]
theorem sc__law_whole : FnScope N__law_whole ["_law_found"] (defScope s__law_whole) := ⟨rfl, rfl, rfl, by decide +kernel, rfl, by decide +kernel, by decide +kernel⟩
abbrev s_heard : Stmt := topS 3
abbrev N_heard : List Str := ["words", "word", "least", "one"]
theorem sc_heard : FnScope N_heard ["words", "word"] (defScope s_heard) := ⟨rfl, rfl, rfl, by decide +kernel, rfl, by decide +kernel, by decide +kernel⟩
abbrev s__law_size : Stmt := topS 7
abbrev N__law_size : List Str := ["_law_draws_here", "_law_number", "_law_q"]
theorem sc__law_size : FnScope N__law_size ["_law_draws_here"] (defScope s__law_size) := ⟨rfl, rfl, rfl, by decide +kernel, rfl, by decide +kernel, by decide +kernel⟩
abbrev s__law_list : Stmt := topS 10
abbrev N__law_list : List Str := ["_law_draws_here", "_law_q", "_law_n", "_law_most", "_law_far_here", "_law_found", "_law_k", "_law_word_here", "_law_one"]
theorem sc__law_list : FnScope N__law_list ["_law_draws_here", "_law_q", "_law_n", "_law_most", "_law_far_here"] (defScope s__law_list) := ⟨rfl, rfl, rfl, by decide +kernel, rfl, by decide +kernel, by decide +kernel⟩
abbrev s_law : Stmt := topS 14
abbrev N_law : List Str := ["_law_script", "_law_draws_here", "_law_q", "_law_n", "_law_words", "_law_handed", "_law_k", "_law_word_here", "_law_least", "_law_due", "_law_turn", "_law_found", "_law_early", "_law_near", "_law_one", "?_law_found.0", "?_law_found.1"]
theorem sc_law : FnScope N_law ["_law_script"] (defScope s_law) := ⟨rfl, rfl, rfl, by decide +kernel, rfl, by decide +kernel, by decide +kernel⟩
section
variable {P : Program} {w : World} {K : PySem.W.Frag} {mg : Str → Option Value} {base : Heap}
theorem body_distance (m_len : mg "len" = none) (m_range : mg "range" = none)  {c : Addr} (cdv : Value) (A : Around) (outer : List Env) (s : Shared) (H : Hp) (E : XK) (hr : Room 0 (A.deeper (envOfC "distance" (defScope s_distance) s.heap.objs.size c cdv))) :
    JSs (cxOf CX0 P w K mg base N_distance "distance" (defScope s_distance) c cdv A outer s H E).nox false [] (defBody s_distance) t_distance :=
  (jss_cons (js_retV (JE.t (je_blt (bl := .len) rfl rfl m_len (ja_cons (JE.t (JN.e (jn_lc (own := [("k", 2)]) rfl rfl sc_distance.nd (blkOk_by (by kernel_rfl)) rfl (ji_rng1 rfl m_range (JE.t (je_blt (bl := .len) rfl rfl m_len (ja_cons (va 0) ja_nil rfl) rfl)) rfl) (fun _ _ _ _ _ => (pg1 2 sc_distance.nd)) (fun _ _ _ _ _ => (jts_one (jc_cmp (op := .ne) hr.units (JE.t (je_ix (va 0) (va 2) (fun _ _ => rfl))) (JE.t (je_ix (va 1) (va 2) (fun _ _ => rfl))) rfl))) (fun _ _ _ _ _ => (va 2)) (fun _ => rfl)))) ja_nil rfl) rfl)))
    jss_nil)
theorem kn_distance {c : Addr} {fd : FuncData} (m_len : mg "len" = none) (m_range : mg "range" = none)  (Fn : FunD K "distance" "distance" (defArgs s_distance) (defBody s_distance) (defScope s_distance) [] [] c fd) (hm : mg "distance" = some (.ref c)) : KnownF P w K mg base 1 f_distance :=
  ⟨⟨c, fd, _, fn_ok (k := 0) Fn sc_distance rfl (fun cdv A outer s H E hr => body_distance m_len m_range cdv A outer s H E hr) plain_distance, hm, Fn.kp, Fn.bindsN fun _ _ _ _ _ _ us hl => match us, hl with | [_, _], _ => rfl⟩, by decide⟩
theorem body__law_draws (m_len : mg "len" = none) (m_range : mg "range" = none)  {c : Addr} (cdv : Value) (A : Around) (outer : List Env) (s : Shared) (H : Hp) (E : XK) (hr : Room 0 (A.deeper (envOfC "_law_draws" (defScope s__law_draws) s.heap.objs.size c cdv))) :
    JSs (cxOf CX0 P w K mg base N__law_draws "_law_draws" (defScope s__law_draws) c cdv A outer s H E).nox true [] (defBody s__law_draws) t__law_draws :=
  (jss_cons (js_set sc__law_draws.nd (sn 3) (by decide) (JE.t (JN.e (jn_cat (JE.t (JN.e (jn_sl (va 0) jo_no (jo_so (JE.t je_int))))) (JE.t (JN.e (jn_lst (ja_cons (va 1) ja_nil rfl))))))) rfl)
    (jss_cons (js_setO sc__law_draws.nd (sn 4) (by decide) (jn_lst ja_nil) rfl)
    (jss_cons (js_if (jc_cmp (op := .eq) hr.units (JE.t (je_bin (op := .mod) (JE.t (je_bin (op := .fdiv) (JE.t (je_ix (va 3) (JE.t je_int) (fun _ _ => rfl))) (JE.t je_int))) (JE.t je_int))) (JE.t je_int) rfl) (jss_cons (js_lcO (i := 5) (own := [("_law_cell", 10)]) rfl (of_decide_eq_true rfl) rfl sc__law_draws.nd rfl rfl (by decide) (sw_true rfl rfl rfl (by kernel_rfl)) (blkOk_by (by kernel_rfl)) rfl (ji_list (va 3)) (fun _ _ _ _ _ => (pg1 10 sc__law_draws.nd)) (fun _ _ _ _ _ => jts_nil) (fun _ _ _ _ _ => (JE.t (je_bin (op := .fdiv) (va 10) (JE.t je_int)))) (fun _ => rfl))
    (jss_cons (js_for (F' := []) rfl PassesOwn.never rfl (ji_rng1 rfl m_range (JE.t (je_bin (op := .add) (va 1) (va 2))) rfl) (pg1 6 sc__law_draws.nd) (jss_cons (js_set sc__law_draws.nd (sn 7) (by decide) (JE.t (je_bin (op := .mod) (va 6) (JE.t (je_blt (bl := .len) rfl rfl m_len (ja_cons (va 5) ja_nil rfl) rfl)))) rfl)
    (jss_cons (js_if (jc_cmp (op := .ge) hr.units (va 6) (va 1) rfl) (jss_cons (js_exp (JE.t (je_app (nm 4) (JE.t (je_bin (op := .mod) (JE.t (je_ix (va 5) (va 7) (fun _ _ => rfl))) (JE.t je_int))) rfl rfl)) rfl)
    jss_nil) jss_nil)
    (jss_cons (js_setIx (nm 5) (va 7) (JE.t (je_bin (op := .fdiv) (JE.t (je_ix (va 5) (va 7) (fun _ _ => rfl))) (JE.t je_int))) rfl rfl rfl (fun _ => rfl))
    jss_nil))) (by decide) (fun _ => rfl))
    (jss_cons (js_retO (nm 4))
    jss_nil))) jss_nil)
    (jss_cons (js_for (F' := []) rfl PassesOwn.never rfl (ji_rng1 rfl m_range (va 2) rfl) (pg1 6 sc__law_draws.nd) (jss_cons (js_set sc__law_draws.nd (sn 8) (by decide) (JE.t (je_bin (op := .add) (JE.t (je_bin (op := .mul) (JE.t (je_bin (op := .mul) (JE.t (je_bin (op := .add) (va 6) (va 1))) (JE.t (je_bin (op := .add) (va 6) (va 1))))) (JE.t je_int))) (JE.t je_int))) rfl)
    (jss_cons (js_set sc__law_draws.nd (sn 9) (by decide) (JE.t (je_bin (op := .mod) (JE.t (je_bin (op := .mul) (JE.t (je_bin (op := .add) (JE.t (je_bin (op := .mod) (JE.t (je_ix (va 3) (JE.t (je_bin (op := .mod) (va 6) (JE.t (je_blt (bl := .len) rfl rfl m_len (ja_cons (va 3) ja_nil rfl) rfl)))) (fun _ _ => rfl))) (JE.t je_int))) (va 8))) (JE.t je_int))) (JE.t je_int))) rfl)
    (jss_cons (js_set sc__law_draws.nd (sn 9) (by decide) (JE.t (je_bin (op := .mod) (JE.t (je_bin (op := .add) (JE.t (je_bin (op := .mul) (va 9) (va 9))) (JE.t (je_bin (op := .mul) (JE.t je_int) (va 6))))) (JE.t je_int))) rfl)
    (jss_cons (js_exp (JE.t (je_app (nm 4) (JE.t (je_bin (op := .mod) (JE.t (je_bin (op := .mul) (va 9) (va 9))) (JE.t je_int))) rfl rfl)) rfl)
    jss_nil)))) (by decide) (fun _ => rfl))
    (jss_cons (js_retO (nm 4))
    jss_nil)))))
theorem kn__law_draws {c : Addr} {fd : FuncData} (m_len : mg "len" = none) (m_range : mg "range" = none)  (Fn : FunD K "_law_draws" "_law_draws" (defArgs s__law_draws) (defBody s__law_draws) (defScope s__law_draws) [] [] c fd) (hm : mg "_law_draws" = some (.ref c)) : KnownF P w K mg base 1 f__law_draws :=
  ⟨⟨c, fd, _, fn_ok (k := 0) Fn sc__law_draws rfl (fun cdv A outer s H E hr => body__law_draws m_len m_range cdv A outer s H E hr) plain__law_draws, hm, Fn.kp, Fn.bindsN fun _ _ _ _ _ _ us hl => match us, hl with | [_, _, _], _ => rfl⟩, by decide⟩
theorem body__law_pop   {c : Addr} (cdv : Value) (A : Around) (outer : List Env) (s : Shared) (H : Hp) (E : XK) (hr : Room 0 (A.deeper (envOfC "_law_pop" (defScope s__law_pop) s.heap.objs.size c cdv))) :
    JSs (cxOf CX0 P w K mg base N__law_pop "_law_pop" (defScope s__law_pop) c cdv A outer s H E).nox false [0] (defBody s__law_pop) t__law_pop :=
  (jss_cons (js_if (jc_cmp (op := .eq) hr.units (va 0) (JE.t (JN.e (jn_lst ja_nil))) rfl) (jss_cons (js_retV (JE.t je_int))
    jss_nil) jss_nil)
    (jss_cons (js_retV (JE.t (je_pop (nm 0) rfl)))
    jss_nil))
theorem kn__law_pop {c : Addr} {fd : FuncData}   (Fn : FunD K "_law_pop" "_law_pop" (defArgs s__law_pop) (defBody s__law_pop) (defScope s__law_pop) [] [] c fd) (hm : mg "_law_pop" = some (.ref c)) : KnownF P w K mg base 1 f__law_pop :=
  ⟨⟨c, fd, _, fn_ok (k := 0) Fn sc__law_pop rfl (fun cdv A outer s H E hr => body__law_pop  cdv A outer s H E hr) plain__law_pop, hm, Fn.kp, Fn.bindsN fun _ _ _ _ _ _ us hl => match us, hl with | [_], _ => rfl⟩, by decide⟩
theorem body__law_word (m_range : mg "range" = none) (m_str : mg "str" = none)  {c : Addr} (cdv : Value) (A : Around) (outer : List Env) (s : Shared) (H : Hp) (E : XK) (hr : Room 0 (A.deeper (envOfC "_law_word" (defScope s__law_word) s.heap.objs.size c cdv))) :
    JSs (cxOf CX0 P w K mg base N__law_word "_law_word" (defScope s__law_word) c cdv A outer s H E).nox false [] (defBody s__law_word) t__law_word :=
  (jss_cons (js_set sc__law_word.nd (sn 3) (by decide) (JE.t je_str) rfl)
    (jss_cons (js_for (F' := []) rfl PassesOwn.never rfl (ji_rng1 rfl m_range (va 2) rfl) (pg1 4 sc__law_word.nd) (jss_cons (js_set sc__law_word.nd (sn 3) (by decide) (JE.t (je_bin (op := .add) (va 3) (JE.t (je_blt (bl := .str) rfl rfl m_str (ja_cons (JE.t (je_bin (op := .mod) (va 0) (va 1))) ja_nil rfl) rfl)))) rfl)
    (jss_cons (js_set sc__law_word.nd (sn 0) (by decide) (JE.t (je_bin (op := .fdiv) (va 0) (va 1))) rfl)
    jss_nil)) (by decide) (fun _ => rfl))
    (jss_cons (js_retV (va 3))
    jss_nil)))
theorem kn__law_word {c : Addr} {fd : FuncData} (m_range : mg "range" = none) (m_str : mg "str" = none)  (Fn : FunD K "_law_word" "_law_word" (defArgs s__law_word) (defBody s__law_word) (defScope s__law_word) [] [] c fd) (hm : mg "_law_word" = some (.ref c)) : KnownF P w K mg base 1 f__law_word :=
  ⟨⟨c, fd, _, fn_ok (k := 0) Fn sc__law_word rfl (fun cdv A outer s H E hr => body__law_word m_range m_str cdv A outer s H E hr) plain__law_word, hm, Fn.kp, Fn.bindsN fun _ _ _ _ _ _ us hl => match us, hl with | [_, _, _], _ => rfl⟩, by decide⟩
theorem body__law_far (m_len : mg "len" = none) (m_range : mg "range" = none)  {c : Addr} (cdv : Value) (A : Around) (outer : List Env) (s : Shared) (H : Hp) (E : XK) (hr : Room 0 (A.deeper (envOfC "_law_far" (defScope s__law_far) s.heap.objs.size c cdv))) :
    JSs (cxOf CX0 P w K mg base N__law_far "_law_far" (defScope s__law_far) c cdv A outer s H E).nox false [] (defBody s__law_far) t__law_far :=
  (jss_cons (js_retV (JE.t (je_blt (bl := .len) rfl rfl m_len (ja_cons (JE.t (JN.e (jn_lc (own := [("_law_k", 2)]) rfl rfl sc__law_far.nd (blkOk_by (by kernel_rfl)) rfl (ji_rng1 rfl m_range (JE.t (je_blt (bl := .len) rfl rfl m_len (ja_cons (va 0) ja_nil rfl) rfl)) rfl) (fun _ _ _ _ _ => (pg1 2 sc__law_far.nd)) (fun _ _ _ _ _ => (jts_one (jc_cmp (op := .ne) hr.units (JE.t (je_ix (va 0) (va 2) (fun _ _ => rfl))) (JE.t (je_ix (va 1) (va 2) (fun _ _ => rfl))) rfl))) (fun _ _ _ _ _ => (va 2)) (fun _ => rfl)))) ja_nil rfl) rfl)))
    jss_nil)
theorem kn__law_far {c : Addr} {fd : FuncData} (m_len : mg "len" = none) (m_range : mg "range" = none)  (Fn : FunD K "_law_far" "_law_far" (defArgs s__law_far) (defBody s__law_far) (defScope s__law_far) [] [] c fd) (hm : mg "_law_far" = some (.ref c)) : KnownF P w K mg base 1 f__law_far :=
  ⟨⟨c, fd, _, fn_ok (k := 0) Fn sc__law_far rfl (fun cdv A outer s H E hr => body__law_far m_len m_range cdv A outer s H E hr) plain__law_far, hm, Fn.kp, Fn.bindsN fun _ _ _ _ _ _ us hl => match us, hl with | [_, _], _ => rfl⟩, by decide⟩
theorem body__law_weighing (m_range : mg "range" = none)  {c : Addr} (cdv : Value) (A : Around) (outer : List Env) (s : Shared) (H : Hp) (E : XK) (hr : Room 0 (A.deeper (envOfC "_law_weighing" (defScope s__law_weighing) s.heap.objs.size c cdv))) :
    JSs (cxOf CX0 P w K mg base N__law_weighing "_law_weighing" (defScope s__law_weighing) c cdv A outer s H E).nox true [] (defBody s__law_weighing) t__law_weighing :=
  (jss_cons (js_set sc__law_weighing.nd (sn 3) (by decide) (JE.t (JN.e (jn_lst (ja_cons (JE.t je_str) ja_nil rfl)))) rfl)
    (jss_cons (js_for (F' := []) rfl PassesOwn.never rfl (ji_rng1 rfl m_range (va 1) rfl) (pg1 4 sc__law_weighing.nd) (jss_cons (js_set sc__law_weighing.nd (sn 5) (by decide) (JE.t (JN.e (jn_lst ja_nil))) rfl)
    (jss_cons (js_for (F' := []) rfl PassesOwn.never rfl (ji_list (va 3)) (pg1 6 sc__law_weighing.nd) (jss_cons (js_set sc__law_weighing.nd (sn 5) (by decide) (JE.t (JN.e (jn_cat (va 5) (JE.t (JN.e (jn_lc (own := [("_law_sign", 7)]) rfl rfl sc__law_weighing.nd (blkOk_by (by kernel_rfl)) rfl (ji_str (JE.t (je_slS (JE.t je_str) jo_no (jo_so (va 0))))) (fun _ _ _ _ _ => (pg1 7 sc__law_weighing.nd)) (fun _ _ _ _ _ => jts_nil) (fun _ _ _ _ _ => (JE.t (je_bin (op := .add) (va 6) (va 7)))) (fun _ => rfl))))))) rfl)
    jss_nil) (by decide) (fun _ => rfl))
    (jss_cons (js_mv (own := false) sc__law_weighing.nd (sn 3) (by decide) (nm 5) rfl)
    jss_nil))) (by decide) (fun _ => rfl))
    (jss_cons (js_retN (jn_lc (own := [("_law_word_here", 6)]) rfl rfl sc__law_weighing.nd (blkOk_by (by kernel_rfl)) rfl (ji_list (va 3)) (fun _ _ _ _ _ => (pg1 6 sc__law_weighing.nd)) (fun _ _ _ _ _ => (jts_one (jc_cmp (op := .eq) hr.units (JE.t (je_bin (op := .sub) (va 1) (JE.t (je_cnt (va 6) (JE.t je_str) rfl rfl rfl)))) (va 2) rfl))) (fun _ _ _ _ _ => (va 6)) (fun _ => rfl)))
    jss_nil)))
theorem kn__law_weighing {c : Addr} {fd : FuncData} (m_range : mg "range" = none)  (Fn : FunD K "_law_weighing" "_law_weighing" (defArgs s__law_weighing) (defBody s__law_weighing) (defScope s__law_weighing) [] [] c fd) (hm : mg "_law_weighing" = some (.ref c)) : KnownF P w K mg base 1 f__law_weighing :=
  ⟨⟨c, fd, _, fn_ok (k := 0) Fn sc__law_weighing rfl (fun cdv A outer s H E hr => body__law_weighing m_range cdv A outer s H E hr) plain__law_weighing, hm, Fn.kp, Fn.bindsN fun _ _ _ _ _ _ us hl => match us, hl with | [_, _, _], _ => rfl⟩, by decide⟩
theorem body__law_texts (m_isinstance : mg "isinstance" = none) (m_list : mg "list" = none) (m_str : mg "str" = none)  {c : Addr} (cdv : Value) (A : Around) (outer : List Env) (s : Shared) (H : Hp) (E : XK) (hr : Room 0 (A.deeper (envOfC "_law_texts" (defScope s__law_texts) s.heap.objs.size c cdv))) :
    JSs (cxOf CX0 P w K mg base N__law_texts "_law_texts" (defScope s__law_texts) c cdv A outer s H E).nox false [] (defBody s__law_texts) t__law_texts :=
  (jss_cons (js_retV (jt_and (JE.t (je_isi (t := .list) rfl m_isinstance rfl m_list (va 0) rfl)) (jt_one (JE.t (je_cmp (op := .eq) hr.units (JE.t (JN.e (jn_lc (own := [("_law_one", 1)]) rfl rfl sc__law_texts.nd (blkOk_by (by kernel_rfl)) rfl (ji_list (va 0)) (fun _ _ _ _ _ => (pg1 1 sc__law_texts.nd)) (fun _ _ _ _ _ => (jts_one (jc_not (jc_val (JE.t (je_isi (t := .str) rfl m_isinstance rfl m_str (va 1) rfl)) (fun _ => rfl))))) (fun _ _ _ _ _ => (va 1)) (fun _ => rfl)))) (JE.t (JN.e (jn_lst ja_nil))) rfl)))))
    jss_nil)
theorem kn__law_texts {c : Addr} {fd : FuncData} (m_isinstance : mg "isinstance" = none) (m_list : mg "list" = none) (m_str : mg "str" = none)  (Fn : FunD K "_law_texts" "_law_texts" (defArgs s__law_texts) (defBody s__law_texts) (defScope s__law_texts) [] [] c fd) (hm : mg "_law_texts" = some (.ref c)) : KnownF P w K mg base 1 f__law_texts :=
  ⟨⟨c, fd, _, fn_ok (k := 0) Fn sc__law_texts rfl (fun cdv A outer s H E hr => body__law_texts m_isinstance m_list m_str cdv A outer s H E hr) plain__law_texts, hm, Fn.kp, Fn.bindsN fun _ _ _ _ _ _ us hl => match us, hl with | [_], _ => rfl⟩, by decide⟩
theorem body__law_whole (m_bool : mg "bool" = none) (m_int : mg "int" = none) (m_isinstance : mg "isinstance" = none)  {c : Addr} (cdv : Value) (A : Around) (outer : List Env) (s : Shared) (H : Hp) (E : XK) (hr : Room 0 (A.deeper (envOfC "_law_whole" (defScope s__law_whole) s.heap.objs.size c cdv))) :
    JSs (cxOf CX0 P w K mg base N__law_whole "_law_whole" (defScope s__law_whole) c cdv A outer s H E).nox false [] (defBody s__law_whole) t__law_whole :=
  (jss_cons (js_retV (jt_and (JE.t (je_isi (t := .int) rfl m_isinstance rfl m_int (va 0) rfl)) (jt_one (JE.t (je_not (JE.t (je_isi (t := .bool) rfl m_isinstance rfl m_bool (va 0) rfl)))))))
    jss_nil)
theorem kn__law_whole {c : Addr} {fd : FuncData} (m_bool : mg "bool" = none) (m_int : mg "int" = none) (m_isinstance : mg "isinstance" = none)  (Fn : FunD K "_law_whole" "_law_whole" (defArgs s__law_whole) (defBody s__law_whole) (defScope s__law_whole) [] [] c fd) (hm : mg "_law_whole" = some (.ref c)) : KnownF P w K mg base 1 f__law_whole :=
  ⟨⟨c, fd, _, fn_ok (k := 0) Fn sc__law_whole rfl (fun cdv A outer s H E hr => body__law_whole m_bool m_int m_isinstance cdv A outer s H E hr) plain__law_whole, hm, Fn.kp, Fn.bindsN fun _ _ _ _ _ _ us hl => match us, hl with | [_], _ => rfl⟩, by decide⟩
theorem body_heard (m_min : mg "min" = none) (m_sorted : mg "sorted" = none) (k_distance : KnownF P w K mg base 1 f_distance) {c : Addr} (cdv : Value) (A : Around) (outer : List Env) (s : Shared) (H : Hp) (E : XK) (hr : Room 1 (A.deeper (envOfC "heard" (defScope s_heard) s.heap.objs.size c cdv))) :
    JSs (cxOf CX0 P w K mg base N_heard "heard" (defScope s_heard) c cdv A outer s H E).nox (.pts .tup (.val (.lst .nil)) .nil) [] (defBody s_heard) t_heard :=
  (jss_cons (js_set sc_heard.nd (sn 2) (by decide) (JE.t (je_blt (bl := .min1) rfl rfl m_min (ja_cons (JE.t (JN.e (jn_lc (own := [("one", 3)]) rfl rfl sc_heard.nd (blkOk_by (by kernel_rfl)) rfl (ji_list (va 0)) (fun _ _ _ _ _ => (pg1 3 sc_heard.nd)) (fun _ _ _ _ _ => jts_nil) (fun _ _ _ _ _ => (JE.t (je_call (f := f_distance) (hr.mono (by decide)) (KnownF.at k_distance) rfl (ja_cons (va 1) (ja_cons (va 3) ja_nil rfl) rfl) rfl rfl))) (fun _ => rfl)))) ja_nil rfl) rfl)) rfl)
    (jss_cons (js_retX (jx_tup (jxs_cons (jx_val (va 2)) (jxs_cons (jx_new (jn_srt rfl m_sorted (JE.t (JN.e (jn_lc (own := [("one", 3)]) rfl rfl sc_heard.nd (blkOk_by (by kernel_rfl)) rfl (ji_list (va 0)) (fun _ _ _ _ _ => (pg1 3 sc_heard.nd)) (fun _ _ _ _ _ => (jts_one (jc_cmp (op := .eq) hr.units (JE.t (je_call (f := f_distance) (hr.mono (by decide)) (KnownF.at k_distance) rfl (ja_cons (va 1) (ja_cons (va 3) ja_nil rfl) rfl) rfl rfl)) (va 2) rfl))) (fun _ _ _ _ _ => (va 3)) (fun _ => rfl)))) rfl)) jxs_nil rfl rfl) rfl rfl)))
    jss_nil))
theorem kn_heard {c : Addr} {fd : FuncData} (m_min : mg "min" = none) (m_sorted : mg "sorted" = none) (k_distance : KnownF P w K mg base 1 f_distance) (Fn : FunD K "heard" "heard" (defArgs s_heard) (defBody s_heard) (defScope s_heard) [] [] c fd) (hm : mg "heard" = some (.ref c)) : KnownF P w K mg base 2 f_heard :=
  ⟨⟨c, fd, _, fn_ok (k := 1) Fn sc_heard rfl (fun cdv A outer s H E hr => body_heard m_min m_sorted k_distance cdv A outer s H E hr) plain_heard, hm, Fn.kp, Fn.bindsN fun _ _ _ _ _ _ us hl => match us, hl with | [_, _], _ => rfl⟩, by decide⟩
theorem body__law_size  (k__law_pop : KnownF P w K mg base 1 f__law_pop) {c : Addr} (cdv : Value) (A : Around) (outer : List Env) (s : Shared) (H : Hp) (E : XK) (hr : Room 1 (A.deeper (envOfC "_law_size" (defScope s__law_size) s.heap.objs.size c cdv))) :
    JSs (cxOf CX0 P w K mg base N__law_size "_law_size" (defScope s__law_size) c cdv A outer s H E).nox false [0] (defBody s__law_size) t__law_size :=
  (jss_cons (js_set sc__law_size.nd (sn 1) (by decide) (JE.t (je_call (f := f__law_pop) (hr.mono (by decide)) (KnownF.at k__law_pop) rfl (ja_cons (va 0) ja_nil rfl) rfl rfl)) rfl)
    (jss_cons (js_set sc__law_size.nd (sn 2) (by decide) (JE.t (je_bin (op := .add) (JE.t je_int) (JE.t (je_bin (op := .mod) (va 1) (JE.t je_int))))) rfl)
    (jss_cons (js_retV (JE.t (je_tup (ja_cons (va 2) (ja_cons (JE.t (je_bin (op := .add) (JE.t je_int) (JE.t (je_bin (op := .mod) (JE.t (je_bin (op := .fdiv) (va 1) (JE.t je_int))) (JE.t (je_ix (JE.t (JN.e (jn_lst (ja_cons (JE.t je_int) (ja_cons (JE.t je_int) ja_nil rfl) rfl)))) (JE.t (je_bin (op := .sub) (va 2) (JE.t je_int))) (fun _ _ => rfl))))))) ja_nil rfl) rfl))))
    jss_nil)))
theorem kn__law_size {c : Addr} {fd : FuncData}  (k__law_pop : KnownF P w K mg base 1 f__law_pop) (Fn : FunD K "_law_size" "_law_size" (defArgs s__law_size) (defBody s__law_size) (defScope s__law_size) [] [] c fd) (hm : mg "_law_size" = some (.ref c)) : KnownF P w K mg base 2 f__law_size :=
  ⟨⟨c, fd, _, fn_ok (k := 1) Fn sc__law_size rfl (fun cdv A outer s H E hr => body__law_size k__law_pop cdv A outer s H E hr) plain__law_size, hm, Fn.kp, Fn.bindsN fun _ _ _ _ _ _ us hl => match us, hl with | [_], _ => rfl⟩, by decide⟩
theorem body__law_list (m_range : mg "range" = none) (k__law_pop : KnownF P w K mg base 1 f__law_pop) (k__law_word : KnownF P w K mg base 1 f__law_word) (k__law_far : KnownF P w K mg base 1 f__law_far) {c : Addr} (cdv : Value) (A : Around) (outer : List Env) (s : Shared) (H : Hp) (E : XK) (hr : Room 1 (A.deeper (envOfC "_law_list" (defScope s__law_list) s.heap.objs.size c cdv))) :
    JSs (cxOf CX0 P w K mg base N__law_list "_law_list" (defScope s__law_list) c cdv A outer s H E).nox true [0] (defBody s__law_list) t__law_list :=
  (jss_cons (js_setO sc__law_list.nd (sn 5) (by decide) (jn_lst ja_nil) rfl)
    (jss_cons (js_for (F' := [0]) rfl PassesOwn.never rfl (ji_rng1 rfl m_range (JE.t (je_bin (op := .mod) (JE.t (je_call (f := f__law_pop) (hr.mono (by decide)) (KnownF.at k__law_pop) rfl (ja_cons (va 0) ja_nil rfl) rfl rfl)) (JE.t (je_bin (op := .add) (va 3) (JE.t je_int))))) rfl) (pg1 6 sc__law_list.nd) (jss_cons (js_set sc__law_list.nd (sn 7) (by decide) (JE.t (je_call (f := f__law_word) (hr.mono (by decide)) (KnownF.at k__law_word) rfl (ja_cons (JE.t (je_call (f := f__law_pop) (hr.mono (by decide)) (KnownF.at k__law_pop) rfl (ja_cons (va 0) ja_nil rfl) rfl rfl)) (ja_cons (va 1) (ja_cons (va 2) ja_nil rfl) rfl) rfl) rfl rfl)) rfl)
    (jss_cons (js_if (jc_cmp (op := .eq) hr.units (JE.t (JN.e (jn_lc (own := [("_law_one", 8)]) rfl rfl sc__law_list.nd (blkOk_by (by kernel_rfl)) rfl (ji_list (va 5)) (fun _ _ _ _ _ => (pg1 8 sc__law_list.nd)) (fun _ _ _ _ _ => (jts_one (jc_cmp (op := .lt) hr.units (JE.t (je_call (f := f__law_far) (hr.mono (by decide)) (KnownF.at k__law_far) rfl (ja_cons (va 8) (ja_cons (va 7) ja_nil rfl) rfl) rfl rfl)) (va 4) rfl))) (fun _ _ _ _ _ => (va 8)) (fun _ => rfl)))) (JE.t (JN.e (jn_lst ja_nil))) rfl) (jss_cons (js_exp (JE.t (je_app (nm 5) (va 7) rfl rfl)) rfl)
    jss_nil) jss_nil)
    jss_nil)) (by decide) (fun _ => rfl))
    (jss_cons (js_retO (nm 5))
    jss_nil)))
theorem kn__law_list {c : Addr} {fd : FuncData} (m_range : mg "range" = none) (k__law_pop : KnownF P w K mg base 1 f__law_pop) (k__law_word : KnownF P w K mg base 1 f__law_word) (k__law_far : KnownF P w K mg base 1 f__law_far) (Fn : FunD K "_law_list" "_law_list" (defArgs s__law_list) (defBody s__law_list) (defScope s__law_list) [] [] c fd) (hm : mg "_law_list" = some (.ref c)) : KnownF P w K mg base 2 f__law_list :=
  ⟨⟨c, fd, _, fn_ok (k := 1) Fn sc__law_list rfl (fun cdv A outer s H E hr => body__law_list m_range k__law_pop k__law_word k__law_far cdv A outer s H E hr) plain__law_list, hm, Fn.kp, Fn.bindsN fun _ _ _ _ _ _ us hl => match us, hl with | [_, _, _, _, _], _ => rfl⟩, by decide⟩
theorem body_law (m_isinstance : mg "isinstance" = none) (m_len : mg "len" = none) (m_list : mg "list" = none) (m_min : mg "min" = none) (m_range : mg "range" = none) (m_sorted : mg "sorted" = none) (m_tuple : mg "tuple" = none) (k__law_draws : KnownF P w K mg base 1 f__law_draws) (k__law_size : KnownF P w K mg base 2 f__law_size) (k__law_list : KnownF P w K mg base 2 f__law_list) (k__law_word : KnownF P w K mg base 1 f__law_word) (k__law_pop : KnownF P w K mg base 1 f__law_pop) (k__law_weighing : KnownF P w K mg base 1 f__law_weighing) (k__law_far : KnownF P w K mg base 1 f__law_far) (k_heard : KnownF P w K mg base 2 f_heard) (k__law_whole : KnownF P w K mg base 1 f__law_whole) (k__law_texts : KnownF P w K mg base 1 f__law_texts) {c : Addr} (cdv : Value) (A : Around) (outer : List Env) (s : Shared) (H : Hp) (E : XK) (hr : Room 2 (A.deeper (envOfC "law" (defScope s_law) s.heap.objs.size c cdv))) :
    JSs (cxOf CX0 P w K mg base N_law "law" (defScope s_law) c cdv A outer s H E).nox false [] (defBody s_law) t_law :=
  (jss_cons (js_setO sc_law.nd (sn 1) (by decide) (jn_call (f := f__law_draws) (hr.mono (by decide)) (KnownF.at k__law_draws) rfl (ja_cons (va 0) (ja_cons (JE.t je_int) (ja_cons (JE.t je_int) ja_nil rfl) rfl) rfl) rfl rfl) rfl)
    (jss_cons (js_asgT (is := [2, 3]) (JE.t (je_call (f := f__law_size) (hr.mono (by decide)) (KnownF.at k__law_size) rfl (ja_cons (va 1) ja_nil rfl) rfl rfl)) (pg_tup rfl (pgs_cons (pg1 2 sc_law.nd) (pgs_cons (pg1 3 sc_law.nd) pgs_nil))) (by decide) rfl rfl rfl rfl)
    (jss_cons (js_set sc_law.nd (sn 4) (by decide) (JE.t (JN.e (jn_call (f := f__law_list) (hr.mono (by decide)) (KnownF.at k__law_list) rfl (ja_cons (va 1) (ja_cons (va 2) (ja_cons (va 3) (ja_cons (JE.t je_int) (ja_cons (JE.t je_int) ja_nil rfl) rfl) rfl) rfl) rfl) rfl rfl))) rfl)
    (jss_cons (js_if (jc_cmp (op := .eq) hr.units (va 4) (JE.t (JN.e (jn_lst ja_nil))) rfl) (jss_cons (js_set sc_law.nd (sn 4) (by decide) (JE.t (JN.e (jn_lst (ja_cons (JE.t (je_call (f := f__law_word) (hr.mono (by decide)) (KnownF.at k__law_word) rfl (ja_cons (JE.t (je_call (f := f__law_pop) (hr.mono (by decide)) (KnownF.at k__law_pop) rfl (ja_cons (va 1) ja_nil rfl) rfl rfl)) (ja_cons (va 2) (ja_cons (va 3) ja_nil rfl) rfl) rfl) rfl rfl)) ja_nil rfl)))) rfl)
    jss_nil) jss_nil)
    (jss_cons (js_if (jc_cmp (op := .eq) hr.units (JE.t (je_bin (op := .mod) (JE.t (je_call (f := f__law_pop) (hr.mono (by decide)) (KnownF.at k__law_pop) rfl (ja_cons (va 1) ja_nil rfl) rfl rfl)) (JE.t je_int))) (JE.t je_int) rfl) (jss_cons (js_set sc_law.nd (sn 4) (by decide) (JE.t (JN.e (jn_call (f := f__law_weighing) (hr.mono (by decide)) (KnownF.at k__law_weighing) rfl (ja_cons (va 2) (ja_cons (va 3) (ja_cons (JE.t (je_bin (op := .mod) (JE.t (je_call (f := f__law_pop) (hr.mono (by decide)) (KnownF.at k__law_pop) rfl (ja_cons (va 1) ja_nil rfl) rfl rfl)) (JE.t (je_bin (op := .add) (va 3) (JE.t je_int))))) ja_nil rfl) rfl) rfl) rfl rfl))) rfl)
    jss_nil) jss_nil)
    (jss_cons (js_setO sc_law.nd (sn 5) (by decide) (jn_ls rfl m_list (va 4) rfl) rfl)
    (jss_cons (js_for (F' := []) rfl PassesOwn.never rfl (ji_rng1 rfl m_range (JE.t je_int) rfl) (pg1 6 sc_law.nd) (jss_cons (js_set sc_law.nd (sn 7) (by decide) (JE.t (je_call (f := f__law_word) (hr.mono (by decide)) (KnownF.at k__law_word) rfl (ja_cons (JE.t (je_call (f := f__law_pop) (hr.mono (by decide)) (KnownF.at k__law_pop) rfl (ja_cons (va 1) ja_nil rfl) rfl rfl)) (ja_cons (va 2) (ja_cons (va 3) ja_nil rfl) rfl) rfl) rfl rfl)) rfl)
    (jss_cons (js_set sc_law.nd (sn 8) (by decide) (JE.t (je_blt (bl := .min1) rfl rfl m_min (ja_cons (JE.t (JN.e (jn_lc (own := [("_law_one", 14)]) rfl rfl sc_law.nd (blkOk_by (by kernel_rfl)) rfl (ji_list (va 4)) (fun _ _ _ _ _ => (pg1 14 sc_law.nd)) (fun _ _ _ _ _ => jts_nil) (fun _ _ _ _ _ => (JE.t (je_call (f := f__law_far) (hr.mono (by decide)) (KnownF.at k__law_far) rfl (ja_cons (va 14) (ja_cons (va 7) ja_nil rfl) rfl) rfl rfl))) (fun _ => rfl)))) ja_nil rfl) rfl)) rfl)
    (jss_cons (js_set sc_law.nd (sn 9) (by decide) (JE.t (JN.e (jn_srt rfl m_sorted (JE.t (JN.e (jn_lc (own := [("_law_one", 14)]) rfl rfl sc_law.nd (blkOk_by (by kernel_rfl)) rfl (ji_list (va 4)) (fun _ _ _ _ _ => (pg1 14 sc_law.nd)) (fun _ _ _ _ _ => (jts_one (jc_cmp (op := .eq) hr.units (JE.t (je_call (f := f__law_far) (hr.mono (by decide)) (KnownF.at k__law_far) rfl (ja_cons (va 14) (ja_cons (va 7) ja_nil rfl) rfl) rfl rfl)) (va 8) rfl))) (fun _ _ _ _ _ => (va 14)) (fun _ => rfl)))) rfl))) rfl)
    (jss_cons (js_for (F' := []) rfl PassesOwn.never rfl (ji_rng1 rfl m_range (JE.t je_int) rfl) (pg1 10 sc_law.nd) (jss_cons (js_setX (i := 11) (ns := [15, 16]) sc_law.nd (sn 11) rfl rfl rfl rfl rfl (jx_call (F := f_heard) (hr.mono (by decide)) (KnownF.at k_heard) rfl (ja_cons (va 5) (ja_cons (va 7) ja_nil rfl) rfl) rfl) rfl)
    (jss_cons (js_if (JW.c (jw_or (jc_not (jc_val (JE.t (je_isiP (t := .tuple) rfl m_isinstance rfl m_tuple (jp_nm (nm 11)) rfl)) (fun _ => rfl))) (jw_or (jc_cmp (op := .ne) hr.units (JE.t (je_lenP rfl m_len (jp_nm (nm 11)) rfl)) (JE.t je_int) rfl) (jw_or (jc_not (jc_val (JE.t (je_call (f := f__law_whole) (hr.mono (by decide)) (KnownF.at k__law_whole) rfl (ja_cons (jt_path (jp_sub (c := 0) (jp_nm (nm 11)))) ja_nil rfl) rfl rfl)) (fun _ => rfl))) (jw_or1 (jc_cmp (op := .ne) hr.units (jt_path (jp_sub (c := 0) (jp_nm (nm 11)))) (va 8) rfl)))))) (jss_cons (js_retV (JE.t je_bl))
    jss_nil) jss_nil)
    (jss_cons (js_if (JW.c (jw_or (jc_not (jc_val (JE.t (je_call (f := f__law_texts) (hr.mono (by decide)) (KnownF.at k__law_texts) rfl (ja_cons (jt_path (jp_sub (c := 1) (jp_nm (nm 11)))) ja_nil rfl) rfl rfl)) (fun _ => rfl))) (jw_or (jc_cmp (op := .ne) hr.units (jt_path (jp_sub (c := 1) (jp_nm (nm 11)))) (va 9) rfl) (jw_or1 (jc_cmp (op := .ne) hr.units (va 5) (va 4) rfl))))) (jss_cons (js_retV (JE.t je_bl))
    jss_nil) jss_nil)
    (jss_cons (js_exp (JE.t (je_appP (jp_sub (c := 1) (jp_nm (nm 11))) (JE.t je_str) rfl rfl rfl)) rfl)
    jss_nil)))) (by decide) (fun _ => rfl))
    jss_nil)))) (by decide) (fun _ => rfl))
    (jss_cons (js_set sc_law.nd (sn 12) (by decide) (JE.t (JX.fz rfl (jx_call (F := f_heard) (hr.mono (by decide)) (KnownF.at k_heard) rfl (ja_cons (va 5) (ja_cons (va 7) ja_nil rfl) rfl) rfl))) rfl)
    (jss_cons (js_if (jc_cmp (op := .gt) hr.units (JE.t (je_blt (bl := .len) rfl rfl m_len (ja_cons (va 5) ja_nil rfl) rfl)) (JE.t je_int) rfl) (jss_cons (js_exp (JE.t (je_rem (nm 5) (JE.t (je_ix (va 9) (JE.t je_int) (fun _ _ => rfl))) rfl rfl)) rfl)
    jss_nil) jss_nil)
    (jss_cons (js_set sc_law.nd (sn 13) (by decide) (JE.t (je_blt (bl := .min1) rfl rfl m_min (ja_cons (JE.t (JN.e (jn_lc (own := [("_law_one", 14)]) rfl rfl sc_law.nd (blkOk_by (by kernel_rfl)) rfl (ji_list (va 5)) (fun _ _ _ _ _ => (pg1 14 sc_law.nd)) (fun _ _ _ _ _ => jts_nil) (fun _ _ _ _ _ => (JE.t (je_call (f := f__law_far) (hr.mono (by decide)) (KnownF.at k__law_far) rfl (ja_cons (va 14) (ja_cons (va 7) ja_nil rfl) rfl) rfl rfl))) (fun _ => rfl)))) ja_nil rfl) rfl)) rfl)
    (jss_cons (js_if (jc_cmp (op := .ne) hr.units (JE.t (JX.fz rfl (jx_call (F := f_heard) (hr.mono (by decide)) (KnownF.at k_heard) rfl (ja_cons (va 5) (ja_cons (va 7) ja_nil rfl) rfl) rfl))) (JE.t (je_tup (ja_cons (va 13) (ja_cons (JE.t (JN.e (jn_srt rfl m_sorted (JE.t (JN.e (jn_lc (own := [("_law_one", 14)]) rfl rfl sc_law.nd (blkOk_by (by kernel_rfl)) rfl (ji_list (va 5)) (fun _ _ _ _ _ => (pg1 14 sc_law.nd)) (fun _ _ _ _ _ => (jts_one (jc_cmp (op := .eq) hr.units (JE.t (je_call (f := f__law_far) (hr.mono (by decide)) (KnownF.at k__law_far) rfl (ja_cons (va 14) (ja_cons (va 7) ja_nil rfl) rfl) rfl rfl)) (va 13) rfl))) (fun _ _ _ _ _ => (va 14)) (fun _ => rfl)))) rfl))) ja_nil rfl) rfl))) rfl) (jss_cons (js_retV (JE.t je_bl))
    jss_nil) jss_nil)
    (jss_cons (js_retV (JE.t (je_cmp (op := .eq) hr.units (va 12) (JE.t (je_tup (ja_cons (va 8) (ja_cons (va 9) ja_nil rfl) rfl))) rfl)))
    jss_nil))))))))))))
theorem kn_law {c : Addr} {fd : FuncData} (m_isinstance : mg "isinstance" = none) (m_len : mg "len" = none) (m_list : mg "list" = none) (m_min : mg "min" = none) (m_range : mg "range" = none) (m_sorted : mg "sorted" = none) (m_tuple : mg "tuple" = none) (k__law_draws : KnownF P w K mg base 1 f__law_draws) (k__law_size : KnownF P w K mg base 2 f__law_size) (k__law_list : KnownF P w K mg base 2 f__law_list) (k__law_word : KnownF P w K mg base 1 f__law_word) (k__law_pop : KnownF P w K mg base 1 f__law_pop) (k__law_weighing : KnownF P w K mg base 1 f__law_weighing) (k__law_far : KnownF P w K mg base 1 f__law_far) (k_heard : KnownF P w K mg base 2 f_heard) (k__law_whole : KnownF P w K mg base 1 f__law_whole) (k__law_texts : KnownF P w K mg base 1 f__law_texts) (Fn : FunD K "law" "law" (defArgs s_law) (defBody s_law) (defScope s_law) [] [] c fd) (hm : mg "law" = some (.ref c)) : KnownF P w K mg base 3 f_law :=
  ⟨⟨c, fd, _, fn_ok (k := 2) Fn sc_law rfl (fun cdv A outer s H E hr => body_law m_isinstance m_len m_list m_min m_range m_sorted m_tuple k__law_draws k__law_size k__law_list k__law_word k__law_pop k__law_weighing k__law_far k_heard k__law_whole k__law_texts cdv A outer s H E hr) plain_law, hm, Fn.kp, Fn.bindsN fun _ _ _ _ _ _ us hl => match us, hl with | [_], _ => rfl⟩, by decide⟩
end
/-! ### the head -/
def d_distance : He.DefD := ⟨("distance", none), "distance", "distance", defArgs s_distance, defBody s_distance, defScope s_distance, [], []⟩
def d__law_draws : He.DefD := ⟨("_law_draws", none), "_law_draws", "_law_draws", defArgs s__law_draws, defBody s__law_draws, defScope s__law_draws, [], []⟩
def d__law_pop : He.DefD := ⟨("_law_pop", none), "_law_pop", "_law_pop", defArgs s__law_pop, defBody s__law_pop, defScope s__law_pop, [], []⟩
def d__law_word : He.DefD := ⟨("_law_word", none), "_law_word", "_law_word", defArgs s__law_word, defBody s__law_word, defScope s__law_word, [], []⟩
def d__law_far : He.DefD := ⟨("_law_far", none), "_law_far", "_law_far", defArgs s__law_far, defBody s__law_far, defScope s__law_far, [], []⟩
def d__law_weighing : He.DefD := ⟨("_law_weighing", none), "_law_weighing", "_law_weighing", defArgs s__law_weighing, defBody s__law_weighing, defScope s__law_weighing, [], []⟩
def d__law_texts : He.DefD := ⟨("_law_texts", none), "_law_texts", "_law_texts", defArgs s__law_texts, defBody s__law_texts, defScope s__law_texts, [], []⟩
def d__law_whole : He.DefD := ⟨("_law_whole", none), "_law_whole", "_law_whole", defArgs s__law_whole, defBody s__law_whole, defScope s__law_whole, [], []⟩
def d_heard : He.DefD := ⟨("heard", none), "heard", "heard", defArgs s_heard, defBody s_heard, defScope s_heard, [], []⟩
def d__law_size : He.DefD := ⟨("_law_size", none), "_law_size", "_law_size", defArgs s__law_size, defBody s__law_size, defScope s__law_size, [], []⟩
def d__law_list : He.DefD := ⟨("_law_list", none), "_law_list", "_law_list", defArgs s__law_list, defBody s__law_list, defScope s__law_list, [], []⟩
def d_law : He.DefD := ⟨("law", none), "law", "law", defArgs s_law, defBody s_law, defScope s_law, [], []⟩
def fn : List He.DefD := [d_distance, d__law_draws, d__law_pop, d__law_word, d__law_far, d__law_weighing, d__law_texts, d__law_whole, d_heard, d__law_size, d__law_list, d_law]
def fa : List He.Fa := [.glo "distance", .glo "_law_draws", .glo "_law_pop", .glo "_law_word", .glo "_law_far", .glo "_law_weighing", .glo "_law_texts", .glo "_law_whole", .glo "heard", .glo "_law_size", .glo "_law_list", .glo "law", .free "bool", .free "int", .free "isinstance", .free "len", .free "list", .free "min", .free "range", .free "sorted", .free "str", .free "tuple"]
abbrev Rw : PySem.W.OpenRow := PySem.W.OpenLaw.row PySem.Challenge.rw_wordsapart_k17_words_heard
abbrev hk : PySem.W.Hook := He.hookD 4 fa fn
def ob (s : PySem.W.SharedT) : He.AlD := He.obsDG 4 fa fn (HandSHeadRun.getT s)
theorem ob_eq (s : PySem.W.SharedT) : ob s = hk.obs s.abs := He.obsDG_eq (HandSHeadRun.getT_eq s)
def loose : List Str := ["distance", "heard", "_law_draws", "_law_pop", "_law_size", "_law_word", "_law_far", "_law_list", "_law_weighing", "_law_texts", "_law_whole"]
theorem run (w : World) : HandSHeadRun.RunEq Rw (PySem.W.view Rw.prog [14]) hk ob 4000 loose w := by
  intro os
  kernel_rfl
theorem facts {P : Program} {w : World} {K : PySem.W.Frag} {h : Heap} {mg : Str → Option Value} {f : Addr} (X : K.In h) (G : h.Ns mainGlobals mg) (hfa : mg ("law" : Str) = some (.ref f)) (c : He.SaysD fa fn K) :
    ∃ fd : FuncData, (∀ (s : Shared) (v : Value), BindsTo s fd ⟨[v], []⟩ [("_law_script", v)]) ∧ ∀ base : Heap, K.In base → base.Ns mainGlobals mg → FnOk P w K mg base CX0 3 f fd ["_law_script"] (spOf K f_law) := by
  obtain ⟨fd_distance, F_distance⟩ := c.def_ 0 (d := d_distance) rfl
  have g_distance := He.glo_ok X G (c.fact 0 (f := .glo "distance") rfl)
  obtain ⟨fd__law_draws, F__law_draws⟩ := c.def_ 1 (d := d__law_draws) rfl
  have g__law_draws := He.glo_ok X G (c.fact 1 (f := .glo "_law_draws") rfl)
  obtain ⟨fd__law_pop, F__law_pop⟩ := c.def_ 2 (d := d__law_pop) rfl
  have g__law_pop := He.glo_ok X G (c.fact 2 (f := .glo "_law_pop") rfl)
  obtain ⟨fd__law_word, F__law_word⟩ := c.def_ 3 (d := d__law_word) rfl
  have g__law_word := He.glo_ok X G (c.fact 3 (f := .glo "_law_word") rfl)
  obtain ⟨fd__law_far, F__law_far⟩ := c.def_ 4 (d := d__law_far) rfl
  have g__law_far := He.glo_ok X G (c.fact 4 (f := .glo "_law_far") rfl)
  obtain ⟨fd__law_weighing, F__law_weighing⟩ := c.def_ 5 (d := d__law_weighing) rfl
  have g__law_weighing := He.glo_ok X G (c.fact 5 (f := .glo "_law_weighing") rfl)
  obtain ⟨fd__law_texts, F__law_texts⟩ := c.def_ 6 (d := d__law_texts) rfl
  have g__law_texts := He.glo_ok X G (c.fact 6 (f := .glo "_law_texts") rfl)
  obtain ⟨fd__law_whole, F__law_whole⟩ := c.def_ 7 (d := d__law_whole) rfl
  have g__law_whole := He.glo_ok X G (c.fact 7 (f := .glo "_law_whole") rfl)
  obtain ⟨fd_heard, F_heard⟩ := c.def_ 8 (d := d_heard) rfl
  have g_heard := He.glo_ok X G (c.fact 8 (f := .glo "heard") rfl)
  obtain ⟨fd__law_size, F__law_size⟩ := c.def_ 9 (d := d__law_size) rfl
  have g__law_size := He.glo_ok X G (c.fact 9 (f := .glo "_law_size") rfl)
  obtain ⟨fd__law_list, F__law_list⟩ := c.def_ 10 (d := d__law_list) rfl
  have g__law_list := He.glo_ok X G (c.fact 10 (f := .glo "_law_list") rfl)
  obtain ⟨fd_law, F_law⟩ := c.def_ 11 (d := d_law) rfl
  have g_law := He.glo_ok X G (c.fact 11 (f := .glo "law") rfl)
  have m_bool := He.free_ok X G (c.fact 12 (f := .free "bool") rfl)
  have m_int := He.free_ok X G (c.fact 13 (f := .free "int") rfl)
  have m_isinstance := He.free_ok X G (c.fact 14 (f := .free "isinstance") rfl)
  have m_len := He.free_ok X G (c.fact 15 (f := .free "len") rfl)
  have m_list := He.free_ok X G (c.fact 16 (f := .free "list") rfl)
  have m_min := He.free_ok X G (c.fact 17 (f := .free "min") rfl)
  have m_range := He.free_ok X G (c.fact 18 (f := .free "range") rfl)
  have m_sorted := He.free_ok X G (c.fact 19 (f := .free "sorted") rfl)
  have m_str := He.free_ok X G (c.fact 20 (f := .free "str") rfl)
  have m_tuple := He.free_ok X G (c.fact 21 (f := .free "tuple") rfl)
  have e := hfa.symm.trans g_law
  cases e
  have b := FunD.bindsA (ps := ["_law_script"]) F_law fun _ _ _ _ _ _ us hl => match us, hl with | [_], _ => rfl
  refine ⟨fd_law, fun s v => b s [v] rfl, fun base _ _ => ?_⟩
  have k_distance : KnownF P w K mg base 1 f_distance := kn_distance m_len m_range F_distance g_distance
  have k__law_draws : KnownF P w K mg base 1 f__law_draws := kn__law_draws m_len m_range F__law_draws g__law_draws
  have k__law_pop : KnownF P w K mg base 1 f__law_pop := kn__law_pop  F__law_pop g__law_pop
  have k__law_word : KnownF P w K mg base 1 f__law_word := kn__law_word m_range m_str F__law_word g__law_word
  have k__law_far : KnownF P w K mg base 1 f__law_far := kn__law_far m_len m_range F__law_far g__law_far
  have k__law_weighing : KnownF P w K mg base 1 f__law_weighing := kn__law_weighing m_range F__law_weighing g__law_weighing
  have k__law_texts : KnownF P w K mg base 1 f__law_texts := kn__law_texts m_isinstance m_list m_str F__law_texts g__law_texts
  have k__law_whole : KnownF P w K mg base 1 f__law_whole := kn__law_whole m_bool m_int m_isinstance F__law_whole g__law_whole
  have k_heard : KnownF P w K mg base 2 f_heard := kn_heard m_min m_sorted k_distance F_heard g_heard
  have k__law_size : KnownF P w K mg base 2 f__law_size := kn__law_size k__law_pop F__law_size g__law_size
  have k__law_list : KnownF P w K mg base 2 f__law_list := kn__law_list m_range k__law_pop k__law_word k__law_far F__law_list g__law_list
  exact fn_ok (k := 2) F_law sc_law rfl (fun cdv A outer s H E hr => body_law m_isinstance m_len m_list m_min m_range m_sorted m_tuple k__law_draws k__law_size k__law_list k__law_word k__law_pop k__law_weighing k__law_far k_heard k__law_whole k__law_texts cdv A outer s H E hr) plain_law
end K17
open PySem PySem.W PySem.Calls PyProof.Rows
set_option maxRecDepth 100000 in
set_option maxHeartbeats 0 in
theorem PySem.Challenge.cw_wordsapart_k17_words_heard_holds : PySem.Challenge.rw_wordsapart_k17_words_heard.Holds := by
  w_on; o_law
  refine HandSHeadRun.head_any (r := OpenLaw.row PySem.Challenge.rw_wordsapart_k17_words_heard) (q := view (OpenLaw.row PySem.Challenge.rw_wordsapart_k17_words_heard).prog [14]) (H := K17.hk) (ob := K17.ob) (M := 4000) (loose := K17.loose) (d := HandSHeadRun.topDef (OpenLaw.row PySem.Challenge.rw_wordsapart_k17_words_heard).prog 14) (kwd := []) K17.ob_eq
    (by kernel_rfl) (fun s => by kernel_rfl) K17.run (by kernel_rfl) (by kernel_rfl) (by kernel_rfl) (by rfl) (by first | assumption | decide +kernel) (by decide +kernel) ⟨rfl, rfl, rfl, rfl, rfl, by decide +kernel⟩ ?hw ?hc
  case hw => w_witness2
  case hc =>
    refine L2.walk_ofE (l := PySem.Challenge.rw_wordsapart_k17_words_heard) (n := 63) (k := 3) (x := "_law_script") (CX := L2.CX0) rfl (by decide) (by kernel_rfl) ⟨rfl, by decide, by decide⟩ ?F (fun _ _ _ _ z => z)
    intro w mg fa h Y G hmg0
    obtain ⟨K, KX, c⟩ := Y
    have hmg : mg ("law" : PySem.Str) = some (.ref fa) := by
      have e : (HandSHeadRun.topDef (OpenLaw.row PySem.Challenge.rw_wordsapart_k17_words_heard).prog 14).name = ("law" : PySem.Str) := by kernel_rfl
      rw [← e]
      exact hmg0
    obtain ⟨fd, hb, hF⟩ := K17.facts (P := (PySem.Challenge.rw_wordsapart_k17_words_heard).prog) (w := w) KX G hmg c
    exact ⟨K, fd, WA.spOf K K17.f_law, KX, hb, fun H a ns hl _ hS => WA.law_sp hl hS, hF⟩
