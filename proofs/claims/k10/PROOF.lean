import PyProof.Rows.All
import Wide.All
import OpenK.AllK
import Wide.FinOn
import PyProof.EqAt
import PyProof.EqKinds
import PyProof.TupleCall
import HandS.ForMost
import HandS.ForExc
import HandS.Zip
import HandS.Iter
import HandS.Wide
import HandS.IsInst
import HandS.TupAny
import HandS.TupMul
import HandS.More
import HandS.WordsExc
import KE.IntTextLaws
import KE.IntTextText
import HandS.Lambda
import HandS.EndTab
import KE.KSuper
import KE.KExcSuper
import HandS.ExcSuper
import HandS.ExcInit
import HandS.ExcIs
import HandS.ExcField
import PyProof.StrOps2
import KE.KNestM
import PySem.Challenge.RW_waysretraced_k10_whole_thing_texts_bent
set_option Elab.async false
set_option linter.all false
section
set_option maxRecDepth 100000
set_option maxHeartbeats 2000000
/-! A layer of trees: values without the heap, states told slot by slot. -/
namespace TLy
open PySem PySem.Spec PyProof.Rows L2
/-- a value as a tree -/
inductive PV where
  | non | bl (b : Bool) | int (i : Int) | str (s : Str) | ty (n : String) | tup (l : List PV) | lst (l : List PV)
mutual
inductive Rep (G : Hp) : V → PV → Prop where
  | non : Rep G .non .non
  | bl (b : Bool) : Rep G (.bl b) (.bl b)
  | int (i : Int) : Rep G (.int i) (.int i)
  | str (s : Str) : Rep G (.str s) (.str s)
  | ty (n : String) : Rep G (.ty n) (.ty n)
  | tup {a : Addr} {vs : List V} {l : List PV} (h : G a = some (.tup vs)) (r : Reps G vs l) : Rep G (.ref a) (.tup l)
  | lst {a : Addr} {vs : List V} {l : List PV} (h : G a = some (.lst vs)) (r : Reps G vs l) : Rep G (.ref a) (.lst l)
inductive Reps (G : Hp) : List V → List PV → Prop where
  | nil : Reps G [] []
  | cons {v : V} {x : PV} {vs : List V} {xs : List PV} (r : Rep G v x) (t : Reps G vs xs) : Reps G (v :: vs) (x :: xs)
end
mutual
theorem Rep.mono {G G' : Hp} (e : Same G G') : ∀ {v : V} {x : PV}, Rep G v x → Rep G' v x
  | _, _, .non => .non
  | _, _, .bl b => .bl b
  | _, _, .int i => .int i
  | _, _, .str s => .str s
  | _, _, .ty n => .ty n
  | _, _, .tup h r => .tup (e _ _ h) (Reps.mono e r)
  | _, _, .lst h r => .lst (e _ _ h) (Reps.mono e r)
theorem Reps.mono {G G' : Hp} (e : Same G G') : ∀ {vs : List V} {xs : List PV}, Reps G vs xs → Reps G' vs xs
  | _, _, .nil => .nil
  | _, _, .cons r t => .cons (Rep.mono e r) (Reps.mono e t)
end
section
variable {G G' : Hp}
theorem Reps.length : ∀ {vs : List V} {xs : List PV}, Reps G vs xs → vs.length = xs.length
  | _, _, .nil => rfl
  | _, _, .cons _ t => by rw [List.length_cons, List.length_cons, Reps.length t]
theorem Reps.get : ∀ {vs : List V} {xs : List PV} {i : Nat} {x : PV}, Reps G vs xs → xs[i]? = some x → ∃ v, vs[i]? = some v ∧ Rep G v x
  | _, _, _, _, .nil, e => by simp at e
  | _, _, 0, _, .cons r _, e => by
    rw [List.getElem?_cons_zero] at e
    cases e
    exact ⟨_, rfl, r⟩
  | _, _, i + 1, _, .cons _ t, e => by
    rw [List.getElem?_cons_succ] at e
    obtain ⟨v, h1, h2⟩ := Reps.get t e
    exact ⟨v, by rw [List.getElem?_cons_succ]; exact h1, h2⟩
theorem Reps.getV : ∀ {vs : List V} {xs : List PV} {i : Nat} {v : V}, Reps G vs xs → vs[i]? = some v → ∃ x, xs[i]? = some x ∧ Rep G v x
  | _, _, _, _, .nil, e => by simp at e
  | _, _, 0, _, .cons r _, e => by
    rw [List.getElem?_cons_zero] at e
    cases e
    exact ⟨_, rfl, r⟩
  | _, _, i + 1, _, .cons _ t, e => by
    rw [List.getElem?_cons_succ] at e
    obtain ⟨v, h1, h2⟩ := Reps.getV t e
    exact ⟨v, by rw [List.getElem?_cons_succ]; exact h1, h2⟩
theorem Reps.append : ∀ {vs ws : List V} {xs ys : List PV}, Reps G vs xs → Reps G ws ys → Reps G (vs ++ ws) (xs ++ ys)
  | _, _, _, _, .nil, s => s
  | _, _, _, _, .cons r t, s => .cons r (Reps.append t s)
theorem Reps.take : ∀ {vs : List V} {xs : List PV} (n : Nat), Reps G vs xs → Reps G (vs.take n) (xs.take n)
  | _, _, 0, _ => by simpa using Reps.nil
  | _, _, _ + 1, .nil => .nil
  | _, _, n + 1, .cons r t => .cons r (Reps.take n t)
theorem Reps.drop : ∀ {vs : List V} {xs : List PV} (n : Nat), Reps G vs xs → Reps G (vs.drop n) (xs.drop n)
  | _, _, 0, r => r
  | _, _, _ + 1, .nil => .nil
  | _, _, n + 1, .cons _ t => Reps.drop n t
theorem Reps.set {v : V} {x : PV} (r : Rep G v x) : ∀ {vs : List V} {xs : List PV} (i : Nat), Reps G vs xs → Reps G (vs.set i v) (xs.set i x)
  | _, _, _, .nil => .nil
  | _, _, 0, .cons _ t => .cons r t
  | _, _, i + 1, .cons q t => .cons q (Reps.set r i t)
theorem Reps.flat (m : Nat) {vs : List V} {xs : List PV} (r : Reps G vs xs) : Reps G (List.replicate m vs).flatten (List.replicate m xs).flatten := by
  induction m with
  | zero => exact .nil
  | succ m ih => rw [List.replicate_succ, List.replicate_succ, List.flatten_cons, List.flatten_cons]; exact r.append ih
theorem Reps.ints : ∀ {vs : List V} {ns : List Int}, Reps G vs (ns.map .int) → vs = ns.map .int
  | _, [], .nil => rfl
  | _, n :: ns, .cons r t => by
    cases r
    rw [Reps.ints t]
    rfl
theorem Reps.bools : ∀ {vs : List V} {ns : List Bool}, Reps G vs (ns.map .bl) → vs = ns.map .bl
  | _, [], .nil => rfl
  | _, n :: ns, .cons r t => by
    cases r
    rw [Reps.bools t]
    rfl
theorem Reps.strs : ∀ {vs : List V} {ns : List Str}, Reps G vs (ns.map .str) → vs = ns.map .str
  | _, [], .nil => rfl
  | _, n :: ns, .cons r t => by
    cases r
    rw [Reps.strs t]
    rfl
theorem Reps.snoc {vs : List V} {xs : List PV} {v : V} {x : PV} (r : Reps G vs xs) (q : Rep G v x) : Reps G (vs ++ [v]) (xs ++ [x]) := r.append (.cons q .nil)
end
/-- what may change: a list, an instance -/
inductive Cell where
  | lst (xs : List PV) | ins (C : Addr) (fs : List (Str × PV))
inductive Flds (G : Hp) : List (Str × V) → List (Str × PV) → Prop where
  | nil : Flds G [] []
  | cons {n : Str} {v : V} {x : PV} {vs : List (Str × V)} {xs : List (Str × PV)} (r : Rep G v x) (t : Flds G vs xs) : Flds G ((n, v) :: vs) ((n, x) :: xs)
theorem Flds.mono {G G' : Hp} (e : Same G G') : ∀ {vs : List (Str × V)} {xs : List (Str × PV)}, Flds G vs xs → Flds G' vs xs
  | _, _, .nil => .nil
  | _, _, .cons r t => .cons (r.mono e) (t.mono e)
def CelAt (G H : Hp) (a : Addr) : Cell → Prop
  | .lst xs => ∃ vs, H a = some (.lst vs) ∧ Reps G vs xs
  | .ins C fs => ∃ dx vs, H a = some (.ins C dx vs) ∧ Flds G vs fs
theorem CelAt.ex {G H : Hp} {a : Addr} {c : Cell} (h : CelAt G H a c) : ∃ o, H a = some o := by
  cases c with
  | lst xs => obtain ⟨vs, e, _⟩ := h; exact ⟨_, e⟩
  | ins C fs => obtain ⟨dx, vs, e, _⟩ := h; exact ⟨_, e⟩
theorem CelAt.mono {G H G' H' : Hp} {a : Addr} {c : Cell} (e : Same G G') (e2 : ∀ o, H a = some o → H' a = some o) (h : CelAt G H a c) : CelAt G' H' a c := by
  cases c with
  | lst xs => obtain ⟨vs, q, r⟩ := h; exact ⟨vs, e2 _ q, r.mono e⟩
  | ins C fs => obtain ⟨dx, vs, q, r⟩ := h; exact ⟨dx, vs, e2 _ q, r.mono e⟩
/-- a slot: a value, or what may change (made here, or lent by the caller) -/
inductive Sl where
  | val (x : PV) | mu (own : Bool) (c : Cell)
abbrev TEnv := List (Option Sl)
def SlAt (H0 : Hp) (bs : List Addr) (G H : Hp) (v : V) : Sl → Prop
  | .val x => Rep G v x
  | .mu o c => ∃ a, v = .ref a ∧ G a = none ∧ CelAt G H a c ∧ (o = true → H0 a = none) ∧ (o = false → a ∈ bs)
structure StT (G0 H0 : Hp) (bs : List Addr) (G H : Hp) (σ : L2.St) (τ : TEnv) : Prop where
  g : Same G0 G
  h : ∀ b o, H0 b = some o → b ∉ bs → H b = some o
  hn : ∀ b o, H0 b = some o → ∃ u, H b = some u
  sub : Same G H
  old : ∀ b o, H0 b = some o → G b = G0 b
  bor : ∀ b, b ∈ bs → (∃ o, H0 b = some o) ∧ G0 b = none
  len : σ.length = τ.length
  env : ∀ (i : Nat) (s : Sl), τ[i]? = some (some s) → ∃ v, σ[i]? = some (some v) ∧ SlAt H0 bs G H v s
  dis : ∀ (i j : Nat) (o : Bool) (c : Cell) (o' : Bool) (c' : Cell) (v : V), τ[i]? = some (some (.mu o c)) → τ[j]? = some (some (.mu o' c')) → σ[i]? = some (some v) → σ[j]? = some (some v) → i = j
structure Gr (G H G' H' : Hp) : Prop where
  g : Same G G'
  h : Same H H'
  sub : Same G' H'
  old : ∀ b o, H b = some o → G' b = G b
theorem Gr.refl {G H : Hp} (e : Same G H) : Gr G H G H := ⟨Same.refl _, Same.refl _, e, fun _ _ _ => rfl⟩
theorem Gr.trans {G H G1 H1 G2 H2 : Hp} (a : Gr G H G1 H1) (b : Gr G1 H1 G2 H2) : Gr G H G2 H2 :=
  ⟨a.g.trans b.g, a.h.trans b.h, b.sub, fun c o e => (b.old c o (a.h c o e)).trans (a.old c o e)⟩
/-- a new thing, not to be changed any more -/
theorem Gr.new {G H : Hp} (e : Same G H) {p : Addr} {o : HO} (hp : H p = none) : Gr G H (upd G p o) (upd H p o) := by
  have gp : G p = none := e.free hp
  refine ⟨fun b u q => ?_, fun b u q => ?_, fun b u q => ?_, fun b u q => ?_⟩
  · rw [upd_ne (ne_of_none q gp)]; exact q
  · rw [upd_ne (ne_of_none q hp)]; exact q
  · by_cases hb : b = p
    · subst hb; rw [upd_same] at q ⊢; exact q
    · rw [upd_ne hb] at q ⊢; exact e b u q
  · rw [upd_ne (ne_of_none q hp)]
theorem SlAt.gr {H0 : Hp} {bs : List Addr} {G H G' H' : Hp} {v : V} {s : Sl} (r : Gr G H G' H') (x : SlAt H0 bs G H v s) : SlAt H0 bs G' H' v s := by
  cases s with
  | val y => exact Rep.mono r.g x
  | mu o c =>
    obtain ⟨a, e, n, k, p, q⟩ := x
    obtain ⟨u, hu⟩ := k.ex
    exact ⟨a, e, (r.old a u hu).trans n, k.mono r.g (fun o h => r.h a o h), p, q⟩
section
variable {G0 H0 G H G' H' : Hp} {bs : List Addr} {σ : L2.St} {τ : TEnv}
theorem StT.gr (s : StT G0 H0 bs G H σ τ) (r : Gr G H G' H') : StT G0 H0 bs G' H' σ τ where
  g := s.g.trans r.g
  h := fun b o e n => r.h b o (s.h b o e n)
  hn := fun b o e => by obtain ⟨u, q⟩ := s.hn b o e; exact ⟨u, r.h b u q⟩
  sub := r.sub
  old := fun b o e => by obtain ⟨u, q⟩ := s.hn b o e; exact (r.old b u q).trans (s.old b o e)
  bor := s.bor
  len := s.len
  env := fun i t e => by obtain ⟨v, h1, h2⟩ := s.env i t e; exact ⟨v, h1, h2.gr r⟩
  dis := s.dis
theorem StT.val (s : StT G0 H0 bs G H σ τ) {i : Nat} {x : PV} (e : τ[i]? = some (some (.val x))) : ∃ v, σ[i]? = some (some v) ∧ Rep G v x := s.env i _ e
/-- a slot gets a value -/
theorem StT.set (s : StT G0 H0 bs G H σ τ) (i : Nat) {v : V} {x : PV} (r : Rep G v x) : StT G0 H0 bs G H (σ.set i (some v)) (τ.set i (some (.val x))) where
  g := s.g
  h := s.h
  hn := s.hn
  sub := s.sub
  old := s.old
  bor := s.bor
  len := by rw [List.length_set, List.length_set]; exact s.len
  env := fun j t e => by
    by_cases hj : i = j
    · subst hj
      by_cases hl : i < τ.length
      · rw [List.getElem?_set_self hl] at e
        cases e
        exact ⟨v, List.getElem?_set_self (by rw [s.len]; exact hl), r⟩
      · rw [List.getElem?_eq_none (by rw [List.length_set]; omega)] at e
        cases e
    · rw [List.getElem?_set_ne hj] at e ⊢
      exact s.env j t e
  dis := fun j k o c o' c' w h1 h2 h3 h4 => by
    have nj : i ≠ j := fun z => by
      subst z
      by_cases hl : i < τ.length
      · rw [List.getElem?_set_self hl] at h1; cases h1
      · rw [List.getElem?_eq_none (by rw [List.length_set]; omega)] at h1; cases h1
    have nk : i ≠ k := fun z => by
      subst z
      by_cases hl : i < τ.length
      · rw [List.getElem?_set_self hl] at h2; cases h2
      · rw [List.getElem?_eq_none (by rw [List.length_set]; omega)] at h2; cases h2
    rw [List.getElem?_set_ne nj] at h1 h3
    rw [List.getElem?_set_ne nk] at h2 h4
    exact s.dis j k o c o' c' w h1 h2 h3 h4
/-- a slot is forgotten -/
theorem StT.unset (s : StT G0 H0 bs G H σ τ) (i : Nat) : StT G0 H0 bs G H (σ.set i none) (τ.set i none) where
  g := s.g
  h := s.h
  hn := s.hn
  sub := s.sub
  old := s.old
  bor := s.bor
  len := by rw [List.length_set, List.length_set]; exact s.len
  env := fun j t e => by
    by_cases hj : i = j
    · subst hj
      by_cases hl : i < τ.length
      · rw [List.getElem?_set_self hl] at e
        cases e
      · rw [List.getElem?_eq_none (by rw [List.length_set]; omega)] at e
        cases e
    · rw [List.getElem?_set_ne hj] at e ⊢
      exact s.env j t e
  dis := fun j k o c o' c' w h1 h2 h3 h4 => by
    have nj : i ≠ j := fun z => by
      subst z
      by_cases hl : i < τ.length
      · rw [List.getElem?_set_self hl] at h1; cases h1
      · rw [List.getElem?_eq_none (by rw [List.length_set]; omega)] at h1; cases h1
    have nk : i ≠ k := fun z => by
      subst z
      by_cases hl : i < τ.length
      · rw [List.getElem?_set_self hl] at h2; cases h2
      · rw [List.getElem?_eq_none (by rw [List.length_set]; omega)] at h2; cases h2
    rw [List.getElem?_set_ne nj] at h1 h3
    rw [List.getElem?_set_ne nk] at h2 h4
    exact s.dis j k o c o' c' w h1 h2 h3 h4
/-- what a slot holds has changed, all else stands -/
theorem StT.wr (s : StT G0 H0 bs G H σ τ) {i : Nat} {o : Bool} {c c' : Cell} {a : Addr} (e : τ[i]? = some (some (.mu o c))) (ea : σ[i]? = some (some (.ref a)))
    (g : Same G G') (h : ∀ b u, H b = some u → b ≠ a → H' b = some u) (sub : Same G' H') (old : ∀ b u, H b = some u → G' b = G b) (k : CelAt G' H' a c') :
    StT G0 H0 bs G' H' σ (τ.set i (some (.mu o c'))) := by
  obtain ⟨v, h1, a', ev, n, kc, own, bor⟩ := s.env i _ e
  rw [ea] at h1
  cases h1
  cases ev
  obtain ⟨u0, hu0⟩ := kc.ex
  obtain ⟨u1, hu1⟩ := k.ex
  have hl : i < τ.length := (List.getElem?_eq_some_iff.mp e).1
  have gn : G' a = none := (old a u0 hu0).trans n
  refine ⟨s.g.trans g, fun b u q nb => ?_, fun b u q => ?_, sub, fun b u q => ?_, s.bor, by rw [List.length_set]; exact s.len, fun j t q => ?_, fun j k o1 c1 o2 c2 w q1 q2 q3 q4 => ?_⟩
  · refine h b u (s.h b u q nb) fun z => ?_
    subst z
    cases o with
    | true => rw [own rfl] at q; cases q
    | false => exact nb (bor rfl)
  · obtain ⟨u2, q2⟩ := s.hn b u q
    by_cases hb : b = a
    · subst hb; exact ⟨_, hu1⟩
    · exact ⟨u2, h b u2 q2 hb⟩
  · obtain ⟨u2, q2⟩ := s.hn b u q
    exact (old b u2 q2).trans (s.old b u q)
  · by_cases hj : i = j
    · subst hj
      rw [List.getElem?_set_self hl] at q
      cases q
      exact ⟨_, ea, a, rfl, gn, k, own, bor⟩
    · rw [List.getElem?_set_ne hj] at q
      obtain ⟨w, w1, w2⟩ := s.env j t q
      refine ⟨w, w1, ?_⟩
      cases t with
      | val y => exact Rep.mono g w2
      | mu o2 c2 =>
        obtain ⟨a2, e2, n2, k2, p2, r2⟩ := w2
        have na : a2 ≠ a := fun z => by
          subst z
          subst e2
          exact hj (s.dis i j o c o2 c2 _ e q ea w1)
        obtain ⟨u3, hu3⟩ := k2.ex
        exact ⟨a2, e2, (old a2 u3 hu3).trans n2, k2.mono g (fun o h' => h a2 o h' na), p2, r2⟩
  · have key : ∀ (j : Nat) (o1 : Bool) (c1 : Cell), (τ.set i (some (.mu o c')))[j]? = some (some (.mu o1 c1)) → ∃ o3 c3, τ[j]? = some (some (.mu o3 c3)) := fun j o1 c1 q => by
      by_cases hj : i = j
      · subst hj; exact ⟨_, _, e⟩
      · rw [List.getElem?_set_ne hj] at q; exact ⟨_, _, q⟩
    obtain ⟨o3, c3, z1⟩ := key j o1 c1 q1
    obtain ⟨o4, c4, z2⟩ := key k o2 c2 q2
    exact s.dis j k _ _ _ _ w z1 z2 q3 q4
/-- a new list becomes a slot's own -/
theorem StT.own (s : StT G0 H0 bs G H σ τ) (i : Nat) {p : Addr} {c : Cell} (gp : G p = none) (hp : H0 p = none) (k : CelAt G H p c) (nw : ∀ (j : Nat) (o : Bool) (c : Cell), τ[j]? = some (some (.mu o c)) → σ[j]? ≠ some (some (.ref p))) :
    StT G0 H0 bs G H (σ.set i (some (.ref p))) (τ.set i (some (.mu true c))) := by
  refine ⟨s.g, s.h, s.hn, s.sub, s.old, s.bor, by rw [List.length_set, List.length_set]; exact s.len, fun j t e => ?_, fun j k o1 c1 o2 c2 w h1 h2 h3 h4 => ?_⟩
  · by_cases hj : i = j
    · subst hj
      by_cases hl : i < τ.length
      · rw [List.getElem?_set_self hl] at e
        cases e
        exact ⟨_, List.getElem?_set_self (by rw [s.len]; exact hl), p, rfl, gp, k, fun _ => hp, fun z => by cases z⟩
      · rw [List.getElem?_eq_none (by rw [List.length_set]; omega)] at e
        cases e
    · rw [List.getElem?_set_ne hj] at e ⊢
      exact s.env j t e
  · by_cases hj : i = j <;> by_cases hk : i = k
    · exact hj.symm.trans hk
    · subst hj
      rw [List.getElem?_set_ne hk] at h2 h4
      by_cases hl : i < σ.length
      · rw [List.getElem?_set_self hl] at h3
        cases h3
        exact absurd h4 (nw k _ _ h2)
      · rw [List.getElem?_eq_none (by rw [List.length_set]; omega)] at h3; cases h3
    · subst hk
      rw [List.getElem?_set_ne hj] at h1 h3
      by_cases hl : i < σ.length
      · rw [List.getElem?_set_self hl] at h4
        cases h4
        exact absurd h3 (nw j _ _ h1)
      · rw [List.getElem?_eq_none (by rw [List.length_set]; omega)] at h4; cases h4
    · rw [List.getElem?_set_ne hj] at h1 h3
      rw [List.getElem?_set_ne hk] at h2 h4
      exact s.dis j k _ _ _ _ w h1 h2 h3 h4
/-- a list of one's own is not changed any more -/
theorem StT.frz (s : StT G0 H0 bs G H σ τ) {i : Nat} {xs : List PV} (e : τ[i]? = some (some (.mu true (.lst xs)))) :
    ∃ G2, Same G G2 ∧ StT G0 H0 bs G2 H σ (τ.set i (some (.val (.lst xs)))) := by
  obtain ⟨v, h1, a, ev, n, ⟨vs, ha, r⟩, own, _⟩ := s.env i _ e
  subst ev
  have hl : i < τ.length := (List.getElem?_eq_some_iff.mp e).1
  have g : Same G (upd G a (.lst vs)) := fun b u q => by rw [upd_ne (ne_of_none q n)]; exact q
  refine ⟨upd G a (.lst vs), g, s.g.trans g, s.h, s.hn, fun b u q => ?_, fun b u q => ?_, s.bor, by rw [List.length_set]; exact s.len, fun j t q => ?_, fun j k o1 c1 o2 c2 w q1 q2 q3 q4 => ?_⟩
  · by_cases hb : b = a
    · subst hb; rw [upd_same] at q; cases q; exact ha
    · rw [upd_ne hb] at q; exact s.sub b u q
  · have hb : b ≠ a := fun z => by subst z; rw [own rfl] at q; cases q
    rw [upd_ne hb]; exact s.old b u q
  · by_cases hj : i = j
    · subst hj
      rw [List.getElem?_set_self hl] at q
      cases q
      exact ⟨_, h1, .lst upd_same (r.mono g)⟩
    · rw [List.getElem?_set_ne hj] at q
      obtain ⟨w, w1, w2⟩ := s.env j t q
      refine ⟨w, w1, ?_⟩
      cases t with
      | val y => exact Rep.mono g w2
      | mu o2 c2 =>
        obtain ⟨a2, e2, n2, k2, p2, r2⟩ := w2
        have na : a2 ≠ a := fun z => by
          subst z
          subst e2
          exact hj (s.dis i j _ _ o2 c2 _ e q h1 w1)
        exact ⟨a2, e2, by rw [upd_ne na]; exact n2, k2.mono g (fun o h' => h'), p2, r2⟩
  · have nj : i ≠ j := fun z => by subst z; rw [List.getElem?_set_self hl] at q1; cases q1
    have nk : i ≠ k := fun z => by subst z; rw [List.getElem?_set_self hl] at q2; cases q2
    rw [List.getElem?_set_ne nj] at q1
    rw [List.getElem?_set_ne nk] at q2
    exact s.dis j k _ _ _ _ w q1 q2 q3 q4
end
end TLy
end
section
set_option maxRecDepth 100000
set_option maxHeartbeats 2000000
namespace TLy
open PySem PySem.Spec PyProof.Rows L2
/-! ### expressions -/
def EvR (te : TE) (τ : TEnv) (x : PV) (τ' : TEnv) : Prop := ∀ (G0 H0 : Hp) (bs : List Addr) (σ : L2.St) (G H : Hp), StT G0 H0 bs G H σ τ → ∀ Q : VK,
  (∀ v G2 H2, StT G0 H0 bs G2 H2 σ τ' → Same G G2 → Rep G2 v x → Q v H2) → te σ H Q
def EvB (tt : TT) (τ : TEnv) (b : Bool) (τ' : TEnv) : Prop := ∀ (G0 H0 : Hp) (bs : List Addr) (σ : L2.St) (G H : Hp), StT G0 H0 bs G H σ τ → ∀ Q : Bool → Hp → Prop,
  (∀ G2 H2, StT G0 H0 bs G2 H2 σ τ' → Same G G2 → Q b H2) → tt σ H Q
def EvA (ta : TA) (τ : TEnv) (xs : List PV) (τ' : TEnv) : Prop := ∀ (G0 H0 : Hp) (bs : List Addr) (σ : L2.St) (G H : Hp), StT G0 H0 bs G H σ τ → ∀ Q : List V → Hp → Prop,
  (∀ vs G2 H2, StT G0 H0 bs G2 H2 σ τ' → Same G G2 → Reps G2 vs xs → Q vs H2) → ta σ H Q
def EvO (to : TO) (τ : TEnv) (o : Option Int) (τ' : TEnv) : Prop := ∀ (G0 H0 : Hp) (bs : List Addr) (σ : L2.St) (G H : Hp), StT G0 H0 bs G H σ τ → ∀ Q : Option Int → Hp → Prop,
  (∀ G2 H2, StT G0 H0 bs G2 H2 σ τ' → Same G G2 → Q o H2) → to σ H Q
/-- a new list, not yet shared -/
def EvN (te : TE) (τ : TEnv) (xs : List PV) (τ' : TEnv) : Prop := ∀ (G0 H0 : Hp) (bs : List Addr) (σ : L2.St) (G H : Hp), StT G0 H0 bs G H σ τ → ∀ Q : VK,
  (∀ p vs G2 H2, StT G0 H0 bs G2 H2 σ τ' → Same G G2 → H0 p = none → G2 p = none → H2 p = some (.lst vs) → Reps G2 vs xs → (∀ (j : Nat) (o : Bool) (c : Cell), τ'[j]? = some (some (.mu o c)) → σ[j]? ≠ some (some (.ref p))) → Q (.ref p) H2) → te σ H Q
/-- values to a value, things may be laid -/
def Rv (k : Hp → VK → Prop) (G H : Hp) (z : PV) : Prop := ∀ Q : VK, (∀ w G' H', Gr G H G' H' → Rep G' w z → Q w H') → k H Q
def RvR (r : R2) (x y z : PV) : Prop := ∀ (G H : Hp), Same G H → ∀ v u, Rep G v x → Rep G u y → Rv (r v u) G H z
def RvU (r : V → Hp → VK → Prop) (x z : PV) : Prop := ∀ (G H : Hp), Same G H → ∀ v, Rep G v x → Rv (r v) G H z
def RvC (r : List V → Hp → VK → Prop) (xs : List PV) (z : PV) : Prop := ∀ (G H : Hp), Same G H → ∀ vs, Reps G vs xs → Rv (r vs) G H z
def RvM (r : V → List V → Hp → VK → Prop) (x : PV) (xs : List PV) (z : PV) : Prop := ∀ (G H : Hp), Same G H → ∀ v vs, Rep G v x → Reps G vs xs → Rv (r v vs) G H z
section
variable {G H : Hp}
theorem Rv.ret {z : PV} {w : V} {k : Hp → VK → Prop} (e : Same G H) (r : Rep G w z) (h : ∀ Q : VK, Q w H → k H Q) : Rv k G H z := fun Q q => h Q (q w G H (Gr.refl e) r)
theorem Rv.newT {zs : List PV} {ws : List V} {k : Hp → VK → Prop} (e : Same G H) (r : Reps G ws zs) (h : ∀ Q : VK, (∀ p, H p = none → Q (.ref p) (upd H p (.tup ws))) → k H Q) : Rv k G H (.tup zs) := fun Q q =>
  h Q fun p hp => q (.ref p) _ _ (Gr.new e hp) (.tup upd_same (r.mono (Gr.new e hp).g))
theorem Rv.newL {zs : List PV} {ws : List V} {k : Hp → VK → Prop} (e : Same G H) (r : Reps G ws zs) (h : ∀ Q : VK, (∀ p, H p = none → Q (.ref p) (upd H p (.lst ws))) → k H Q) : Rv k G H (.lst zs) := fun Q q =>
  h Q fun p hp => q (.ref p) _ _ (Gr.new e hp) (.lst upd_same (r.mono (Gr.new e hp).g))
end
section
variable {τ τ1 τ2 τ3 : TEnv} {ta tb tc te : TE} {x y z : PV} {r : R2} {tt uu : TT} {b c : Bool}
theorem ev_var {i : Nat} (e : τ[i]? = some (some (.val x))) : EvR (tVar i) τ x τ := fun G0 H0 bs σ G H s Q q => by
  obtain ⟨v, h1, h2⟩ := s.val e
  exact ⟨v, h1, q v G H s (Same.refl _) h2⟩
theorem ev_int {n : Int} : EvR (tC (.int n)) τ (.int n) τ := fun _ _ _ _ G H s Q q => q _ G H s (Same.refl _) (.int n)
theorem ev_str {n : Str} : EvR (tC (.str n)) τ (.str n) τ := fun _ _ _ _ G H s Q q => q _ G H s (Same.refl _) (.str n)
theorem ev_bl {n : Bool} : EvR (tC (.bl n)) τ (.bl n) τ := fun _ _ _ _ G H s Q q => q _ G H s (Same.refl _) (.bl n)
theorem ev_ty {n : String} : EvR (tC (.ty n)) τ (.ty n) τ := fun _ _ _ _ G H s Q q => q _ G H s (Same.refl _) (.ty n)
theorem ev_non : EvR (tC .non) τ .non τ := fun _ _ _ _ G H s Q q => q _ G H s (Same.refl _) .non
theorem ev_op (ha : EvR ta τ x τ1) (hb : EvR tb τ1 y τ2) (hr : RvR r x y z) : EvR (tOp r ta tb) τ z τ2 := fun _ _ _ _ G H s Q q =>
  ha _ _ _ _ _ _ s _ fun v G1 H1 s1 e1 r1 => hb _ _ _ _ _ _ s1 _ fun u G2 H2 s2 e2 r2 => hr G2 H2 s2.sub v u (r1.mono e2) r2 Q fun w G3 H3 g r3 => q w G3 H3 (s2.gr g) ((e1.trans e2).trans g.g) r3
theorem ev_un {r : V → Hp → VK → Prop} (ha : EvR ta τ x τ1) (hr : RvU r x z) : EvR (tUn r ta) τ z τ1 := fun _ _ _ _ G H s Q q =>
  ha _ _ _ _ _ _ s _ fun v G1 H1 s1 e1 r1 => hr G1 H1 s1.sub v r1 Q fun w G3 H3 g r3 => q w G3 H3 (s1.gr g) (e1.trans g.g) r3
theorem ev_chainT {r r' : R2} {w : PV} (ha : EvR ta τ x τ1) (hb : EvR tb τ1 y τ2) (hc : EvR tc τ2 z τ3) (hr : RvR r x y (.bl true)) (hr' : RvR r' y z w) : EvR (tChain r r' ta tb tc) τ w τ3 := fun _ _ _ _ G H s Q q =>
  ha _ _ _ _ _ _ s _ fun v G1 H1 s1 e1 r1 => hb _ _ _ _ _ _ s1 _ fun u G2 H2 s2 e2 r2 => hr G2 H2 s2.sub v u (r1.mono e2) r2 _ fun w1 G3 H3 g r3 => by
    cases r3
    refine ⟨true, rfl, ?_⟩
    rw [if_pos rfl]
    exact hc _ _ _ _ _ _ (s2.gr g) _ fun u2 G4 H4 s4 e4 r4 => hr' G4 H4 s4.sub u u2 ((r2.mono g.g).mono e4) r4 Q fun w2 G5 H5 g5 r5 => q w2 G5 H5 (s4.gr g5) ((((e1.trans e2).trans g.g).trans e4).trans g5.g) r5
theorem ev_chainF {r r' : R2} (ha : EvR ta τ x τ1) (hb : EvR tb τ1 y τ2) (hr : RvR r x y (.bl false)) : EvR (tChain r r' ta tb tc) τ (.bl false) τ2 := fun _ _ _ _ G H s Q q =>
  ha _ _ _ _ _ _ s _ fun v G1 H1 s1 e1 r1 => hb _ _ _ _ _ _ s1 _ fun u G2 H2 s2 e2 r2 => hr G2 H2 s2.sub v u (r1.mono e2) r2 _ fun w1 G3 H3 g r3 => by
    cases r3
    refine ⟨false, rfl, ?_⟩
    rw [if_neg Bool.false_ne_true]
    exact q _ G3 H3 (s2.gr g) ((e1.trans e2).trans g.g) (.bl false)
/-- both comparisons keep the state as it is -/
theorem ev_chain {r r' : R2} {c d : Bool} (ha : EvR ta τ x τ) (hb : EvR tb τ y τ) (hc : EvR tc τ z τ) (hr : RvR r x y (.bl c)) (hr' : c = true → RvR r' y z (.bl d)) : EvR (tChain r r' ta tb tc) τ (.bl (c && d)) τ := by
  cases c with
  | true => exact ev_chainT ha hb hc hr (hr' rfl)
  | false => exact ev_chainF ha hb hr
/-! tests -/
theorem eb_B (h : EvR te τ (.bl b) τ1) : EvB (tB te) τ b τ1 := fun _ _ _ _ G H s Q q => h _ _ _ _ _ _ s _ fun v G1 H1 s1 e1 r1 => by
  cases r1
  exact ⟨b, rfl, q G1 H1 s1 e1⟩
theorem eb_test (h : EvR te τ (.bl b) τ1) : EvB (tTest te) τ b τ1 := fun _ _ _ _ G H s Q q => h _ _ _ _ _ _ s _ fun v G1 H1 s1 e1 r1 => by
  cases r1
  exact ⟨b, rfl, q G1 H1 s1 e1⟩
theorem eb_and (h : EvB tt τ b τ1) (h2 : b = true → EvB uu τ1 c τ2) (e : b = false → c = false ∧ τ2 = τ1) : EvB (tAnd tt uu) τ c τ2 := fun _ _ _ _ G H s Q q => h _ _ _ _ _ _ s _ fun G1 H1 s1 e1 => by
  cases b with
  | true =>
    show uu _ H1 Q
    exact h2 rfl _ _ _ _ _ _ s1 _ fun G2 H2 s2 e2 => q G2 H2 s2 (e1.trans e2)
  | false =>
    obtain ⟨rfl, rfl⟩ := e rfl
    show Q false H1
    exact q G1 H1 s1 e1
theorem eb_or (h : EvB tt τ b τ1) (h2 : b = false → EvB uu τ1 c τ2) (e : b = true → c = true ∧ τ2 = τ1) : EvB (tOr tt uu) τ c τ2 := fun _ _ _ _ G H s Q q => h _ _ _ _ _ _ s _ fun G1 H1 s1 e1 => by
  cases b with
  | false =>
    show uu _ H1 Q
    exact h2 rfl _ _ _ _ _ _ s1 _ fun G2 H2 s2 e2 => q G2 H2 s2 (e1.trans e2)
  | true =>
    obtain ⟨rfl, rfl⟩ := e rfl
    show Q true H1
    exact q G1 H1 s1 e1
/-- the state stays as it is -/
theorem eb_andP (h : EvB tt τ b τ) (h2 : b = true → EvB uu τ c τ) : EvB (tAnd tt uu) τ (b && c) τ := by
  cases b with
  | true => exact eb_and h (fun _ => h2 rfl) (fun z => by cases z)
  | false => exact eb_and (c := false) h (fun z => by cases z) (fun _ => ⟨rfl, rfl⟩)
theorem eb_orP (h : EvB tt τ b τ) (h2 : b = false → EvB uu τ c τ) : EvB (tOr tt uu) τ (b || c) τ := by
  cases b with
  | false => exact eb_or h (fun _ => h2 rfl) (fun z => by cases z)
  | true => exact eb_or (c := true) h (fun z => by cases z) (fun _ => ⟨rfl, rfl⟩)
theorem eb_not (h : EvB tt τ b τ1) : EvB (tNot tt) τ (!b) τ1 := fun _ _ _ _ G H s Q q => h _ _ _ _ _ _ s _ fun G1 H1 s1 e1 => q G1 H1 s1 e1
theorem eb_is (h : EvB tt τ b τ1) (e : b = c) : EvB tt τ c τ1 := e ▸ h
theorem ev_is (h : EvR te τ x τ1) (e : x = y) : EvR te τ y τ1 := e ▸ h
theorem ev_andP (h : EvR ta τ (.bl b) τ) (h2 : b = true → EvR tb τ (.bl c) τ) : EvR (tAndV ta tb) τ (.bl (b && c)) τ := fun _ _ _ _ G H s Q q => h _ _ _ _ _ _ s _ fun v G1 H1 s1 e1 r1 => by
  cases r1
  refine ⟨b, rfl, ?_⟩
  cases b with
  | true =>
    show tb _ H1 Q
    exact h2 rfl _ _ _ _ _ _ s1 _ fun w G2 H2 s2 e2 r2 => q w G2 H2 s2 (e1.trans e2) r2
  | false => exact q _ G1 H1 s1 e1 (.bl false)
theorem ev_orP (h : EvR ta τ (.bl b) τ) (h2 : b = false → EvR tb τ (.bl c) τ) : EvR (tOrV ta tb) τ (.bl (b || c)) τ := fun _ _ _ _ G H s Q q => h _ _ _ _ _ _ s _ fun v G1 H1 s1 e1 r1 => by
  cases r1
  refine ⟨b, rfl, ?_⟩
  cases b with
  | false =>
    show tb _ H1 Q
    exact h2 rfl _ _ _ _ _ _ s1 _ fun w G2 H2 s2 e2 r2 => q w G2 H2 s2 (e1.trans e2) r2
  | true => exact q _ G1 H1 s1 e1 (.bl true)
theorem ev_notP (h : EvR ta τ (.bl b) τ1) : EvR (tNotV ta) τ (.bl (!b)) τ1 := fun _ _ _ _ G H s Q q => h _ _ _ _ _ _ s _ fun v G1 H1 s1 e1 r1 => by
  cases r1
  exact ⟨b, rfl, q _ G1 H1 s1 e1 (.bl (!b))⟩
theorem ev_if (h : EvB tt τ b τ1) (h1 : b = true → EvR ta τ1 x τ2) (h2 : b = false → EvR tb τ1 x τ2) : EvR (tIf tt ta tb) τ x τ2 := fun _ _ _ _ G H s Q q => h _ _ _ _ _ _ s _ fun G1 H1 s1 e1 => by
  cases b with
  | true =>
    show ta _ H1 Q
    exact h1 rfl _ _ _ _ _ _ s1 _ fun w G2 H2 s2 e2 r2 => q w G2 H2 s2 (e1.trans e2) r2
  | false =>
    show tb _ H1 Q
    exact h2 rfl _ _ _ _ _ _ s1 _ fun w G2 H2 s2 e2 r2 => q w G2 H2 s2 (e1.trans e2) r2
theorem ev_isN (h : EvR ta τ x τ1) : EvR (tIsN ta) τ (.bl (match x with | .non => true | _ => false)) τ1 := fun _ _ _ _ G H s Q q => h _ _ _ _ _ _ s _ fun v G1 H1 s1 e1 r1 => by
  cases r1 <;> exact q _ G1 H1 s1 e1 (.bl _)
theorem ev_notN (h : EvR ta τ x τ1) : EvR (tNotN ta) τ (.bl (match x with | .non => false | _ => true)) τ1 := fun _ _ _ _ G H s Q q => h _ _ _ _ _ _ s _ fun v G1 H1 s1 e1 r1 => by
  cases r1 <;> exact q _ G1 H1 s1 e1 (.bl _)
/-! arguments, displays -/
theorem ea_nil : EvA tNil τ [] τ := fun _ _ _ _ G H s Q q => q [] G H s (Same.refl _) .nil
theorem ea_cons {tr : TA} {xs : List PV} (h : EvR ta τ x τ1) (h2 : EvA tr τ1 xs τ2) : EvA (tCons ta tr) τ (x :: xs) τ2 := fun _ _ _ _ G H s Q q =>
  h _ _ _ _ _ _ s _ fun v G1 H1 s1 e1 r1 => h2 _ _ _ _ _ _ s1 _ fun vs G2 H2 s2 e2 r2 => q (v :: vs) G2 H2 s2 (e1.trans e2) (.cons (r1.mono e2) r2)
theorem ev_tup {tr : TA} {xs : List PV} (h : EvA tr τ xs τ1) (hz : xs.length ≤ 100000) : EvR (tTup tr) τ (.tup xs) τ1 := fun _ _ _ _ G H s Q q =>
  h _ _ _ _ _ _ s _ fun vs G1 H1 s1 e1 r1 => ⟨by rw [r1.length]; exact Nat.le_trans hz (by decide), fun p hp => by
    have g := Gr.new (o := .tup vs) s1.sub hp
    exact q _ _ _ (s1.gr g) (e1.trans g.g) (.tup upd_same (r1.mono g.g))⟩
theorem ev_lst {tr : TA} {xs : List PV} (h : EvA tr τ xs τ1) (hz : xs.length ≤ 100000) : EvR (tLst tr) τ (.lst xs) τ1 := fun _ _ _ _ G H s Q q =>
  h _ _ _ _ _ _ s _ fun vs G1 H1 s1 e1 r1 => ⟨by rw [r1.length]; exact Nat.le_trans hz (by decide), fun p hp => by
    have g := Gr.new (o := .lst vs) s1.sub hp
    exact q _ _ _ (s1.gr g) (e1.trans g.g) (.lst upd_same (r1.mono g.g))⟩
/-- a heap grows by a thing of which nothing is known in G -/
theorem StT.lay {G0 H0 G H : Hp} {bs : List Addr} {σ : L2.St} (s : StT G0 H0 bs G H σ τ) {p : Addr} {o : HO} (hp : H p = none) : StT G0 H0 bs G (upd H p o) σ τ := by
  have gp : G p = none := s.sub.free hp
  refine s.gr ⟨Same.refl _, fun b u q => by rw [upd_ne (ne_of_none q hp)]; exact q, fun b u q => by rw [upd_ne (ne_of_none q gp)]; exact s.sub b u q, fun _ _ _ => rfl⟩
theorem StT.nw {G0 H0 G H : Hp} {bs : List Addr} {σ : L2.St} (s : StT G0 H0 bs G H σ τ) {p : Addr} (hp : H p = none) : ∀ (j : Nat) (o : Bool) (c : Cell), τ[j]? = some (some (.mu o c)) → σ[j]? ≠ some (some (.ref p)) := fun j o c e z => by
  obtain ⟨v, h1, a, ev, n, k, _⟩ := s.env j _ e
  rw [h1] at z
  cases z
  cases ev
  obtain ⟨u, hu⟩ := k.ex
  rw [hu] at hp
  cases hp
theorem StT.new0 {G0 H0 G H : Hp} {bs : List Addr} {σ : L2.St} (s : StT G0 H0 bs G H σ τ) {p : Addr} (hp : H p = none) : H0 p = none := by
  cases q : H0 p with
  | none => rfl
  | some o =>
    obtain ⟨u, hu⟩ := s.hn p o q
    rw [hu] at hp
    cases hp
theorem en_lst {tr : TA} {xs : List PV} (h : EvA tr τ xs τ1) (hz : xs.length ≤ 100000) : EvN (tLst tr) τ xs τ1 := fun _ _ _ _ G H s Q q =>
  h _ _ _ _ _ _ s _ fun vs G1 H1 s1 e1 r1 => ⟨by rw [r1.length]; exact Nat.le_trans hz (by decide), fun p hp =>
    q p vs G1 _ (s1.lay hp) e1 (s1.new0 hp) (s1.sub.free hp) upd_same r1 (s1.nw hp)⟩
/-- a new list is shared at once -/
theorem ev_new {xs : List PV} (h : EvN te τ xs τ1) : EvR te τ (.lst xs) τ1 := fun G0 H0 bs σ G H s Q q => h _ _ _ _ _ _ s _ fun p vs G1 H1 s1 e1 h0 gp hp r nw => by
  have g : Same G1 (upd G1 p (.lst vs)) := fun b u z => by rw [upd_ne (ne_of_none z gp)]; exact z
  refine q (.ref p) (upd G1 p (.lst vs)) H1 ?_ (e1.trans g) (.lst upd_same (r.mono g))
  refine ⟨s1.g.trans g, s1.h, s1.hn, fun b u z => ?_, fun b u z => ?_, s1.bor, s1.len, fun i t z => ?_, s1.dis⟩
  · by_cases hb : b = p
    · subst hb; rw [upd_same] at z; cases z; exact hp
    · rw [upd_ne hb] at z; exact s1.sub b u z
  · rw [upd_ne (ne_of_none z h0)]; exact s1.old b u z
  · obtain ⟨v, z1, z2⟩ := s1.env i t z
    refine ⟨v, z1, ?_⟩
    cases t with
    | val y => exact Rep.mono g z2
    | mu o c =>
      obtain ⟨a, ea, n, k, p1, p2⟩ := z2
      have na : a ≠ p := fun w => by subst w; subst ea; exact nw i _ _ z z1
      exact ⟨a, ea, by rw [upd_ne na]; exact n, k.mono g (fun _ w => w), p1, p2⟩
/-! calls of what is built in -/
theorem ev_cb {r : List V → Hp → VK → Prop} {tr : TA} {xs : List PV} (h : EvA tr τ xs τ1) (hr : RvC r xs z) : EvR (tCB r tr) τ z τ1 := fun _ _ _ _ G H s Q q =>
  h _ _ _ _ _ _ s _ fun vs G1 H1 s1 e1 r1 => hr G1 H1 s1.sub vs r1 Q fun w G2 H2 g r2 => q w G2 H2 (s1.gr g) (e1.trans g.g) r2
theorem ev_sl {r : V → Option Int → Option Int → Hp → VK → Prop} {tl th : TO} {lo hi : Option Int} (h : EvR te τ x τ1) (h1 : EvO tl τ1 lo τ2) (h2 : EvO th τ2 hi τ3) (hr : RvU (fun v => r v lo hi) x z) : EvR (tSl r te tl th) τ z τ3 := fun _ _ _ _ G H s Q q =>
  h _ _ _ _ _ _ s _ fun v G1 H1 s1 e1 r1 => h1 _ _ _ _ _ _ s1 _ fun G2 H2 s2 e2 => h2 _ _ _ _ _ _ s2 _ fun G3 H3 s3 e3 => hr G3 H3 s3.sub v ((r1.mono e2).mono e3) Q fun w G4 H4 g r4 => q w G4 H4 (s3.gr g) (((e1.trans e2).trans e3).trans g.g) r4
theorem eo_none : EvO tNoPart τ none τ := fun _ _ _ _ G H s Q q => q G H s (Same.refl _)
theorem eo_some {n : Int} (h : EvR te τ (.int n) τ1) : EvO (tPart te) τ (some n) τ1 := fun _ _ _ _ G H s Q q => h _ _ _ _ _ _ s _ fun v G1 H1 s1 e1 r1 => by
  cases r1
  exact ⟨n, rfl, q G1 H1 s1 e1⟩
theorem ev_bm {K : PySem.W.Frag} {T : String} {r : V → List V → Hp → VK → Prop} {tr : TA} {xs : List PV} (h : EvR te τ x τ1) (hT : ∀ (G H : Hp), Same G H → ∀ v, Rep G v x → tyV K T v H) (h2 : EvA tr τ1 xs τ2) (hr : RvM r x xs z) : EvR (tBM K T r te tr) τ z τ2 := fun _ _ _ _ G H s Q q =>
  h _ _ _ _ _ _ s _ fun v G1 H1 s1 e1 r1 => ⟨hT G1 H1 s1.sub v r1, h2 _ _ _ _ _ _ s1 _ fun vs G2 H2 s2 e2 r2 => hr G2 H2 s2.sub v vs (r1.mono e2) r2 Q fun w G3 H3 g r3 => q w G3 H3 (s2.gr g) ((e1.trans e2).trans g.g) r3⟩
end
/-! ### errors, calls of defs -/
/-- an error: its class, and its one field -/
structure Er where
  c : Addr
  f : Option (Str × V)
def ErAt (H : Hp) (e : Er) (cls : Value) (d : Option Addr) : Prop := cls = .ref e.c ∧ match e.f with
  | none => d = none
  | some p => ∃ a, d = some a ∧ H a = some (.xd [p])
def ErrP (G0 H0 : Hp) (bs : List Addr) (e : Er) (E : XK) : Prop := ∀ cls d G' H', Same G0 G' → Same G' H' → (∀ b o, H0 b = some o → b ∉ bs → H' b = some o) → (∀ b o, H0 b = some o → ∃ u, H' b = some u) → (∀ b o, H0 b = some o → G' b = G0 b) → ErAt H' e cls d → E cls d H'
def RetP (G H : Hp) (y : PV) (Q : VK) : Prop := ∀ v G' H', Gr G H G' H' → Rep G' v y → Q v H'
def RetC (G H : Hp) (a : Addr) (c : Cell) (y : PV) (Q : VK) : Prop := ∀ v G' H', Same G G' → (∀ b u, H b = some u → b ≠ a → H' b = some u) → Same G' H' → (∀ b u, H b = some u → G' b = G b) → CelAt G' H' a c → Rep G' v y → Q v H'
/-- a def that changes nothing -/
def SpP (sp : Sp) (E : XK) (xs : List PV) (y : PV) : Prop := ∀ (G H : Hp), Same G H → ∀ vs, Reps G vs xs → ∀ Q, RetP G H y Q → sp vs H Q E
/-- .. that raises -/
def SpE (sp : Sp) (xs : List PV) (e : Er) : Prop := ∀ (G H : Hp), Same G H → ∀ vs, Reps G vs xs → ∀ Q E, ErrP G H [] e E → sp vs H Q E
/-- a def that changes its first argument -/
def SpC (sp : Sp) (E : XK) (c : Cell) (xs : List PV) (y : PV) (c' : Cell) : Prop := ∀ (G H : Hp), Same G H → ∀ a, G a = none → CelAt G H a c → ∀ vs, Reps G vs xs → ∀ Q, RetC G H a c' y Q → sp (.ref a :: vs) H Q E
def SpCE (sp : Sp) (c : Cell) (xs : List PV) (e : Er) : Prop := ∀ (G H : Hp), Same G H → ∀ a, G a = none → CelAt G H a c → ∀ vs, Reps G vs xs → ∀ Q E, ErrP G H [a] e E → sp (.ref a :: vs) H Q E
/-- an expression raises -/
def EvE (E : XK) (te : TE) (τ : TEnv) (e : Er) : Prop := ∀ (G0 H0 : Hp) (bs : List Addr) (σ : L2.St) (G H : Hp), StT G0 H0 bs G H σ τ → ErrP G0 H0 bs e E → ∀ Q, te σ H Q
section
variable {τ τ1 τ2 τ3 : TEnv} {ta tb tc te : TE} {x y z : PV} {sp : Sp} {E : XK} {tr : TA} {xs : List PV} {e : Er}
theorem ev_call (h : EvA tr τ xs τ1) (k : SpP sp E xs y) : EvR (tCall sp [] E tr) τ y τ1 := fun _ _ _ _ G H s Q q =>
  h _ _ _ _ _ _ s _ fun vs G1 H1 s1 e1 r1 => by
    rw [List.append_nil]
    exact k G1 H1 s1.sub vs r1 Q fun v G2 H2 g r2 => q v G2 H2 (s1.gr g) (e1.trans g.g) r2
theorem StT.err {G0 H0 G H : Hp} {bs cs : List Addr} {σ : L2.St} (s : StT G0 H0 bs G H σ τ) (h : ErrP G0 H0 bs e E) (hc : ∀ b ∈ cs, H0 b = none ∨ b ∈ bs) : ErrP G H cs e E := fun cls d G' H' a1 a2 a3 a4 a5 a6 =>
  h cls d G' H' (s.g.trans a1) a2 (fun b o q nb => a3 b o (s.h b o q nb) fun z => by
    rcases hc b z with w | w
    · rw [w] at q; cases q
    · exact nb w) (fun b o q => by obtain ⟨u, hu⟩ := s.hn b o q; exact a4 b u hu) (fun b o q => by obtain ⟨u, hu⟩ := s.hn b o q; exact (a5 b u hu).trans (s.old b o q)) a6
theorem ee_call (h : EvA tr τ xs τ1) (k : SpE sp xs e) : EvE E (tCall sp [] E tr) τ e := fun G0 H0 bs σ G H s he Q =>
  h _ _ _ _ _ _ s _ fun vs G1 H1 s1 e1 r1 => by
    rw [List.append_nil]
    exact k G1 H1 s1.sub vs r1 Q E (s1.err he fun _ z => absurd z (by simp))
theorem ev_callC {i : Nat} {o0 o : Bool} {c0 c c' : Cell} (h0 : τ[i]? = some (some (.mu o0 c0))) (h : EvA tr τ xs τ1) (h1 : τ1[i]? = some (some (.mu o c))) (k : SpC sp E c xs y c') : EvR (tCall sp [] E (tCons (tVar i) tr)) τ y (τ1.set i (some (.mu o c'))) := fun G0 H0 bs σ G H s Q q => by
  obtain ⟨v, hv, a, ev, n, kc, _⟩ := s.env i _ h0
  subst ev
  refine ⟨_, hv, ?_⟩
  refine h _ _ _ _ _ _ s _ fun vs G1 H1 s1 e1 r1 => ?_
  obtain ⟨v', hv', a', ev', n', kc', _⟩ := s1.env i _ h1
  rw [hv] at hv'
  cases hv'
  cases ev'
  rw [List.append_nil]
  exact k G1 H1 s1.sub _ n' kc' vs r1 Q fun w G2 H2 a1 a2 a3 a4 a5 r2 => q w G2 H2 (s1.wr h1 hv a1 a2 a3 a4 a5) (e1.trans a1) r2
end
end TLy
end
section
set_option maxRecDepth 100000
set_option maxHeartbeats 2000000
namespace TLy
open PySem PySem.Spec PyProof.Rows L2
/-! ### statements -/
structure Post where
  nx : TEnv → Prop
  rt : PV → TEnv → Prop
  bk : TEnv → Prop := fun _ => False
  ct : TEnv → Prop := fun _ => False
  er : Er → Prop := fun _ => False
def Exec (E : XK) (t : TS) (τ : TEnv) (P : Post) : Prop := ∀ (G0 H0 : Hp) (bs : List Addr) (σ : L2.St) (G H : Hp) (D : Ends), StT G0 H0 bs G H σ τ → (∀ e, P.er e → ErrP G0 H0 bs e E) →
  (∀ σ' τ' G' H', P.nx τ' → StT G0 H0 bs G' H' σ' τ' → D.nx σ' H') → (∀ v x σ' τ' G' H', P.rt x τ' → StT G0 H0 bs G' H' σ' τ' → Rep G' v x → D.rt v H') →
  (∀ σ' τ' G' H', P.bk τ' → StT G0 H0 bs G' H' σ' τ' → D.bk σ' H') → (∀ σ' τ' G' H', P.ct τ' → StT G0 H0 bs G' H' σ' τ' → D.ct σ' H') → t D σ H
/-- targets -/
def TgR (g : TG) (x : PV) (τ τ' : TEnv) : Prop := ∀ (G0 H0 : Hp) (bs : List Addr) (σ : L2.St) (G H : Hp) (v : V), StT G0 H0 bs G H σ τ → Rep G v x → ∀ Q : L2.St → Hp → Prop, (∀ σ', StT G0 H0 bs G H σ' τ' → Q σ' H) → g v σ H Q
def TgsR (g : TGs) (xs : List PV) (τ τ' : TEnv) : Prop := ∀ (G0 H0 : Hp) (bs : List Addr) (σ : L2.St) (G H : Hp) (vs : List V), StT G0 H0 bs G H σ τ → Reps G vs xs → ∀ Q : L2.St → Hp → Prop, (∀ σ', StT G0 H0 bs G H σ' τ' → Q σ' H) → g vs σ H Q
section
variable {E : XK} {τ τ1 τ2 τ3 : TEnv} {ta tb tc te : TE} {x y z : PV} {t u : TS} {P : Post} {tt : TT} {b : Bool} {g : TG}
theorem tg_name {i : Nat} : TgR (gName i) x τ (τ.set i (some (.val x))) := fun _ _ _ _ G H v s r Q q => q _ (s.set i r)
theorem tgs_nil : TgsR gNil [] τ τ := fun _ _ _ _ G H vs s r Q q => by
  cases r
  exact ⟨rfl, q _ s⟩
theorem tgs_cons {gs : TGs} {xs : List PV} (h : TgR g x τ τ1) (h2 : TgsR gs xs τ1 τ2) : TgsR (gCons g gs) (x :: xs) τ τ2 := fun _ _ _ _ G H vs s r Q q => by
  cases r with
  | cons r1 r2 => exact ⟨_, _, rfl, h _ _ _ _ _ _ _ s r1 _ fun σ1 s1 => h2 _ _ _ _ _ _ _ s1 r2 Q q⟩
theorem tg_tup {K : PySem.W.Frag} {n : Nat} {gs : TGs} {xs : List PV} (h : TgsR gs xs τ τ1) (hn : xs.length = n) : TgR (gTup K n gs) (.tup xs) τ τ1 := fun _ _ _ _ G H v s r Q q => by
  cases r with
  | tup hv r => exact ⟨_, _, rfl, SqT.of (s.sub _ _ hv), by rw [r.length]; exact hn, h _ _ _ _ _ _ _ s r Q q⟩
theorem ex_seq (M : TEnv → Prop) (h : Exec E t τ { P with nx := M }) (h2 : ∀ τ', M τ' → Exec E u τ' P) : Exec E (tSeq t u) τ P := fun G0 H0 bs σ G H D s he hn hr hb hc =>
  h G0 H0 bs σ G H { D with nx := u D } s he (fun σ' τ' G' H' m s' => h2 τ' m G0 H0 bs σ' G' H' D s' he hn hr hb hc) hr hb hc
/-- .. where what lies between is known -/
theorem ex_seq1 (h : Exec E t τ { P with nx := fun τ' => τ' = τ1 }) (h2 : Exec E u τ1 P) : Exec E (tSeq t u) τ P := ex_seq _ h fun _ m => m ▸ h2
theorem ex_asg (h : EvR te τ x τ1) (h2 : TgR g x τ1 τ2) (q : P.nx τ2) : Exec E (tAsg te g) τ P := fun G0 H0 bs σ G H D s he hn hr hb hc =>
  h _ _ _ _ _ _ s _ fun v G1 H1 s1 e1 r1 => h2 _ _ _ _ _ _ _ s1 r1 _ fun σ' s' => hn σ' τ2 G1 H1 q s'
theorem ex_set {i : Nat} (h : EvR te τ x τ1) (q : P.nx (τ1.set i (some (.val x)))) : Exec E (tAsg te (gName i)) τ P := ex_asg h tg_name q
theorem ex_par {i j : Nat} {tr : TA} (h : EvA tr τ [x, y] τ1) (q : P.nx ((τ1.set i (some (.val x))).set j (some (.val y)))) : Exec E (tPar i j tr) τ P := fun G0 H0 bs σ G H D s he hn hr hb hc =>
  h _ _ _ _ _ _ s _ fun vs G1 H1 s1 e1 r1 => by
    cases r1 with
    | cons a1 r1 =>
      cases r1 with
      | cons a2 r2 =>
        cases r2
        exact ⟨_, _, rfl, hn _ _ G1 H1 q ((s1.set i a1).set j a2)⟩
/-- a new list for a name: one's own -/
theorem ex_own {i : Nat} {xs : List PV} (h : EvN te τ xs τ1) (q : P.nx (τ1.set i (some (.mu true (.lst xs))))) : Exec E (tAsg te (gName i)) τ P := fun G0 H0 bs σ G H D s he hn hr hb hc =>
  h _ _ _ _ _ _ s _ fun p vs G1 H1 s1 e1 h0 gp hp r nw => hn _ _ G1 H1 q (s1.own i gp h0 ⟨vs, hp, r⟩ nw)
theorem ex_frz (i : Nat) {xs : List PV} (e : τ[i]? = some (some (.mu true (.lst xs)))) (h : Exec E t (τ.set i (some (.val (.lst xs)))) P) : Exec E t τ P := fun G0 H0 bs σ G H D s he hn hr hb hc => by
  obtain ⟨G2, g, s2⟩ := s.frz e
  exact h G0 H0 bs σ G2 H D s2 he hn hr hb hc
theorem ex_ret (h : EvR te τ x τ1) (q : P.rt x τ1) : Exec E (tRet te) τ P := fun G0 H0 bs σ G H D s he hn hr hb hc =>
  h _ _ _ _ _ _ s _ fun v G1 H1 s1 e1 r1 => hr v x σ τ1 G1 H1 q s1 r1
theorem ex_retE {e : Er} (h : EvE E te τ e) (q : P.er e) : Exec E (tRet te) τ P := fun G0 H0 bs σ G H D s he hn hr hb hc => h _ _ _ _ _ _ s (he e q) _
theorem ex_asgE {e : Er} (h : EvE E te τ e) (q : P.er e) : Exec E (tAsg te g) τ P := fun G0 H0 bs σ G H D s he hn hr hb hc => h _ _ _ _ _ _ s (he e q) _
theorem ex_dropE {e : Er} (h : EvE E te τ e) (q : P.er e) : Exec E (tDrop te) τ P := fun G0 H0 bs σ G H D s he hn hr hb hc => h _ _ _ _ _ _ s (he e q) _
theorem ex_retN (q : P.rt .non τ) : Exec E tRetN τ P := fun G0 H0 bs σ G H D s he hn hr hb hc => hr .non .non σ τ G H q s .non
theorem ex_drop (h : EvR te τ x τ1) (q : P.nx τ1) : Exec E (tDrop te) τ P := fun G0 H0 bs σ G H D s he hn hr hb hc =>
  h _ _ _ _ _ _ s _ fun v G1 H1 s1 e1 r1 => hn σ τ1 G1 H1 q s1
theorem ex_next (q : P.nx τ) : Exec E tNext τ P := fun G0 H0 bs σ G H D s he hn hr hb hc => hn σ τ G H q s
theorem ex_break (q : P.bk τ) : Exec E tBreak τ P := fun G0 H0 bs σ G H D s he hn hr hb hc => hb σ τ G H q s
theorem ex_cont (q : P.ct τ) : Exec E tCont τ P := fun G0 H0 bs σ G H D s he hn hr hb hc => hc σ τ G H q s
theorem ex_if (h : EvB tt τ b τ1) (h1 : b = true → Exec E t τ1 P) (h2 : b = false → Exec E u τ1 P) : Exec E (tIfS tt t u) τ P := fun G0 H0 bs σ G H D s he hn hr hb hc =>
  h _ _ _ _ _ _ s _ fun G1 H1 s1 e1 => by
    cases b with
    | true =>
      show t D σ H1
      exact h1 rfl G0 H0 bs σ G1 H1 D s1 he hn hr hb hc
    | false =>
      show u D σ H1
      exact h2 rfl G0 H0 bs σ G1 H1 D s1 he hn hr hb hc
theorem ex_T (h : EvB tt τ true τ1) (h1 : Exec E t τ1 P) : Exec E (tIfS tt t u) τ P := ex_if h (fun _ => h1) (fun z => by cases z)
theorem ex_F (h : EvB tt τ false τ1) (h1 : Exec E u τ1 P) : Exec E (tIfS tt t u) τ P := ex_if h (fun z => by cases z) (fun _ => h1)
theorem ex_mono {P' : Post} (h : Exec E t τ P') (a : ∀ τ', P'.nx τ' → P.nx τ') (b : ∀ x τ', P'.rt x τ' → P.rt x τ') (c : ∀ τ', P'.bk τ' → P.bk τ') (d : ∀ τ', P'.ct τ' → P.ct τ') (e : ∀ r, P'.er r → P.er r) : Exec E t τ P := fun G0 H0 bs σ G H D s he hn hr hb hc =>
  h G0 H0 bs σ G H D s (fun r q => he r (e r q)) (fun σ' τ' G' H' q => hn σ' τ' G' H' (a τ' q)) (fun v x σ' τ' G' H' q => hr v x σ' τ' G' H' (b x τ' q)) (fun σ' τ' G' H' q => hb σ' τ' G' H' (c τ' q)) (fun σ' τ' G' H' q => hc σ' τ' G' H' (d τ' q))
/-- while: an invariant with a measure -/
theorem ex_while (I : Nat → TEnv → Prop) (m0 : Nat) (h0 : I m0 τ)
    (hs : ∀ m τ', I m τ' → ∃ b τ2, EvB tt τ' b τ2 ∧ (b = true → Exec E t τ2 { nx := fun τ3 => ∃ m', m' < m ∧ I m' τ3, rt := P.rt, bk := P.nx, ct := fun τ3 => ∃ m', m' < m ∧ I m' τ3, er := P.er }) ∧ (b = false → P.nx τ2)) : Exec E (tWhile tt t) τ P := fun G0 H0 bs σ G H D s he hn hr hb hc => by
  refine ⟨fun m σ' H' => ∃ τ' G', I m τ' ∧ StT G0 H0 bs G' H' σ' τ', ⟨m0, τ, G, h0, s⟩, ?_⟩
  rintro m σ' H' ⟨τ', G', hI, s'⟩
  obtain ⟨b, τ2, hB, hT, hF⟩ := hs m τ' hI
  refine hB _ _ _ _ _ _ s' _ fun G2 H2 s2 e2 => ?_
  cases b with
  | false =>
    show D.nx σ' H2
    exact hn σ' τ2 G2 H2 (hF rfl) s2
  | true =>
    refine ⟨fun σ3 H3 => ∃ m', m' < m ∧ ∃ τ3 G3, I m' τ3 ∧ StT G0 H0 bs G3 H3 σ3 τ3, fun σ3 H3 z => z, ?_⟩
    exact hT rfl G0 H0 bs σ' G2 H2 _ s2 he (fun σ3 τ3 G3 H3 ⟨m', l, q⟩ s3 => ⟨m', l, τ3, G3, q, s3⟩) hr (fun σ3 τ3 G3 H3 q s3 => hn σ3 τ3 G3 H3 q s3) (fun σ3 τ3 G3 H3 ⟨m', l, q⟩ s3 => ⟨m', l, τ3, G3, q, s3⟩)
/-! ### what is walked -/
/-- from such a state J gives out these -/
def Yld (J : It) (G1 : Hp) (xs : List PV) : Prop := ∀ (i : Nat) (G H : Hp), Same G1 G → Same G H →
  (∀ x, xs[i]? = some x → J.go i H ∧ ∀ v H', J.yld i H v H' → ∃ G', Gr G H G' H' ∧ Rep G' v x) ∧ (i = xs.length → J.stop i H)
def ItR (wi : TI) (τ : TEnv) (xs : List PV) (τ' : TEnv) : Prop := ∀ (G0 H0 : Hp) (bs : List Addr) (σ : L2.St) (G H : Hp), StT G0 H0 bs G H σ τ → ∀ R : It → Hp → Prop,
  (∀ J G1 H1, StT G0 H0 bs G1 H1 σ τ' → Same G G1 → Yld J G1 xs → R J H1) → wi σ H R
theorem it_list {K : PySem.W.Frag} {xs : List PV} (h : EvR te τ (.lst xs) τ1) : ItR (iList K te) τ xs τ1 := fun G0 H0 bs σ G H s R q => h _ _ _ _ _ _ s _ fun v G1 H1 s1 e1 r1 => by
  cases r1 with
  | @lst a vs _ hv r =>
    refine ⟨a, rfl, ⟨vs, SqL.of (s1.sub _ _ hv)⟩, q _ G1 H1 s1 e1 fun i G2 H2 g2 sub => ⟨fun x hx => ?_, fun hi => ?_⟩⟩
    · obtain ⟨w, w1, w2⟩ := r.get hx
      have hL : SqL K H2 a vs := SqL.of (sub _ _ (g2 _ _ hv))
      refine ⟨⟨vs, w, hL, w1⟩, fun v' H' hy => ?_⟩
      obtain ⟨rfl, hy⟩ := hy
      have e := hy vs hL
      rw [w1] at e
      cases e
      exact ⟨G2, Gr.refl sub, w2.mono g2⟩
    · exact ⟨vs, SqL.of (sub _ _ (g2 _ _ hv)), by rw [r.length]; omega⟩
theorem it_tup {K : PySem.W.Frag} {xs : List PV} (h : EvR te τ (.tup xs) τ1) : ItR (iTup K te) τ xs τ1 := fun G0 H0 bs σ G H s R q => h _ _ _ _ _ _ s _ fun v G1 H1 s1 e1 r1 => by
  cases r1 with
  | @tup a vs _ hv r =>
    refine ⟨a, rfl, ⟨vs, SqT.of (s1.sub _ _ hv)⟩, q _ G1 H1 s1 e1 fun i G2 H2 g2 sub => ⟨fun x hx => ?_, fun hi => ?_⟩⟩
    · obtain ⟨w, w1, w2⟩ := r.get hx
      have hL : SqT K H2 a vs := SqT.of (sub _ _ (g2 _ _ hv))
      refine ⟨⟨vs, w, hL, w1⟩, fun v' H' hy => ?_⟩
      obtain ⟨rfl, hy⟩ := hy
      have e := hy vs hL
      rw [w1] at e
      cases e
      exact ⟨G2, Gr.refl sub, w2.mono g2⟩
    · exact ⟨vs, SqT.of (sub _ _ (g2 _ _ hv)), by rw [r.length]; omega⟩
def rangeP (lo : Int) (n : Nat) : List PV := (List.range n).map fun (i : Nat) => PV.int (lo + (i : Int))
theorem yld_range {lo : Int} {n : Nat} {G1 : Hp} : Yld (Itr lo n) G1 (rangeP lo n) := fun i G2 H2 g2 sub => by
  refine ⟨fun x hx => ?_, fun hi => ?_⟩
  · unfold rangeP at hx
    rw [List.getElem?_map] at hx
    by_cases hi : i < n
    · rw [List.getElem?_range hi] at hx
      cases hx
      refine ⟨hi, fun v H' hy => ?_⟩
      obtain ⟨rfl, rfl⟩ := hy
      exact ⟨G2, Gr.refl sub, .int _⟩
    · rw [List.getElem?_eq_none (by rw [List.length_range]; omega)] at hx
      cases hx
  · unfold rangeP at hi
    rw [List.length_map, List.length_range] at hi
    exact Nat.le_of_eq hi.symm
theorem it_range1 {tr : TA} {n : Int} (h : EvA tr τ [.int n] τ1) (h1 : -(2 ^ 62) ≤ n) (h2 : n < 2 ^ 62) : ItR (iRng1 tr) τ (rangeP 0 n.toNat) τ1 := fun G0 H0 bs σ G H s R q => h _ _ _ _ _ _ s _ fun vs G1 H1 s1 e1 r1 => by
  cases r1 with
  | cons a r =>
    cases a
    cases r
    exact ⟨n, rfl, h1, h2, q _ G1 H1 s1 e1 yld_range⟩
theorem it_range2 {tr : TA} {m n : Int} (h : EvA tr τ [.int m, .int n] τ1) (hb : -(2 ^ 62) ≤ m ∧ m < 2 ^ 62 ∧ -(2 ^ 62) ≤ n ∧ n < 2 ^ 62) : ItR (iRng2 tr) τ (rangeP m (n - m).toNat) τ1 := fun G0 H0 bs σ G H s R q => h _ _ _ _ _ _ s _ fun vs G1 H1 s1 e1 r1 => by
  cases r1 with
  | cons a r =>
    cases a
    cases r with
    | cons a r =>
      cases a
      cases r
      exact ⟨m, n, rfl, hb, q _ G1 H1 s1 e1 yld_range⟩
def signsP (z : Str) : List PV := z.cps.toList.map fun c => .str ⟨#[c]⟩
theorem it_str {z : Str} (h : EvR te τ (.str z) τ1) : ItR (iStr te) τ (signsP z) τ1 := fun G0 H0 bs σ G H s R q => h _ _ _ _ _ _ s _ fun v G1 H1 s1 e1 r1 => by
  cases r1
  refine ⟨z, rfl, q _ G1 H1 s1 e1 fun i G2 H2 g2 sub => ⟨fun x hx => ?_, fun hi => ?_⟩⟩
  · unfold signsP at hx
    rw [List.getElem?_map, Array.getElem?_toList] at hx
    cases hc : z.cps[i]? with
    | none => rw [hc] at hx; cases hx
    | some c =>
      rw [hc] at hx
      cases hx
      refine ⟨(Array.getElem?_eq_some_iff.mp hc).1, fun v H' hy => ?_⟩
      obtain ⟨rfl, c2, e2, rfl⟩ := hy
      rw [hc] at e2
      cases e2
      exact ⟨G2, Gr.refl sub, .str _⟩
  · unfold signsP at hi
    rw [List.length_map, Array.length_toList] at hi
    exact Nat.le_of_eq hi.symm
theorem StT.up {G0 H0 G H : Hp} {bs : List Addr} {σ : L2.St} (s : StT G0 H0 bs G H σ τ) : StT G H0 bs G H σ τ :=
  ⟨Same.refl _, s.h, s.hn, s.sub, fun _ _ _ => rfl, fun b z => ⟨(s.bor b z).1, by obtain ⟨⟨o, e⟩, n⟩ := s.bor b z; exact (s.old b o e).trans n⟩, s.len, s.env, s.dis⟩
theorem StT.down {G0 H0 G1 H1 G H : Hp} {bs : List Addr} {σ1 σ : L2.St} {τ1 τ : TEnv} (s1 : StT G0 H0 bs G1 H1 σ1 τ1) (s : StT G1 H0 bs G H σ τ) : StT G0 H0 bs G H σ τ :=
  ⟨s1.g.trans s.g, s.h, s.hn, s.sub, fun b o e => (s.old b o e).trans (s1.old b o e), s1.bor, s.len, s.env, s.dis⟩
theorem ErrP.up {G0 H0 G1 H1 : Hp} {bs : List Addr} {σ1 : L2.St} {τ1 : TEnv} {e : Er} (s1 : StT G0 H0 bs G1 H1 σ1 τ1) (h : ErrP G0 H0 bs e E) : ErrP G1 H0 bs e E := fun cls d G' H' a1 a2 a3 a4 a5 a6 =>
  h cls d G' H' (s1.g.trans a1) a2 a3 a4 (fun b o q => (a5 b o q).trans (s1.old b o q)) a6
/-- for: an invariant over what is gone through -/
theorem ex_for {wi : TI} {xs : List PV} (I : Nat → TEnv → Prop) (hi : ItR wi τ xs τ1) (h0 : I 0 τ1)
    (hs : ∀ i x τ', xs[i]? = some x → I i τ' → ∃ τ2, TgR g x τ' τ2 ∧ Exec E t τ2 { nx := I (i + 1), rt := P.rt, bk := P.nx, ct := I (i + 1), er := P.er }) (hd : ∀ τ', I xs.length τ' → P.nx τ') : Exec E (tFor wi g t) τ P := fun G0 H0 bs σ G H D s he hn hr hb hc => by
  refine hi _ _ _ _ _ _ s _ fun J G1 H1 s1 e1 hJ => ?_
  refine ⟨fun i m σ' H' => ∃ τ' G', i + m = xs.length ∧ I i τ' ∧ StT G1 H0 bs G' H' σ' τ', ⟨xs.length, τ1, G1, by omega, h0, s1.up⟩, ?_⟩
  rintro i m σ' H' ⟨τ', G', hm, hI, s'⟩
  obtain ⟨y1, y2⟩ := hJ i G' H' s'.g s'.sub
  by_cases hl : i < xs.length
  · obtain ⟨go, yl⟩ := y1 xs[i] (List.getElem?_eq_getElem hl)
    obtain ⟨τ2, hT, hE⟩ := hs i _ τ' (List.getElem?_eq_getElem hl) hI
    refine .inr ⟨go, fun σ3 H3 => ∃ τ3 G3, I (i + 1) τ3 ∧ StT G1 H0 bs G3 H3 σ3 τ3, fun σ3 H3 ⟨τ3, G3, q, s3⟩ => ⟨m - 1, by omega, τ3, G3, by omega, q, s3⟩, fun v H3 hy => ?_⟩
    obtain ⟨G3, g3, r3⟩ := yl v H3 hy
    refine hT _ _ _ _ _ _ _ (s'.gr g3) r3 _ fun σ4 s4 => ?_
    exact hE _ _ _ _ _ _ _ s4 (fun e q => ErrP.up s1 (he e q)) (fun σ5 τ5 G5 H5 q s5 => ⟨τ5, G5, q, s5⟩) (fun v x σ5 τ5 G5 H5 q s5 => hr v x σ5 τ5 G5 H5 q (s1.down s5)) (fun σ5 τ5 G5 H5 q s5 => hn σ5 τ5 G5 H5 q (s1.down s5)) (fun σ5 τ5 G5 H5 q s5 => ⟨τ5, G5, q, s5⟩)
  · have e : i = xs.length := by omega
    subst e
    exact .inl ⟨y2 rfl, hn σ' τ' G' H' (hd τ' hI) (s1.down s')⟩
end
/-! ### comprehensions -/
def wipeT (τ : TEnv) : List Nat → TEnv
  | [] => τ
  | v :: vs => (wipeT τ vs).set v none
theorem StT.wiped {G0 H0 G H : Hp} {bs : List Addr} {σ : L2.St} {τ : TEnv} (s : StT G0 H0 bs G H σ τ) : ∀ vs : List Nat, StT G0 H0 bs G H (wipe σ vs) (wipeT τ vs)
  | [] => s
  | v :: vs => (StT.wiped s vs).unset v
/-- what may change is lent -/
def lent : Option Sl → Option Sl
  | some (.mu _ c) => some (.mu false c)
  | o => o
def lentT (τ : TEnv) : TEnv := τ.map lent
end TLy
end
section
set_option maxRecDepth 100000
set_option maxHeartbeats 2000000
namespace TLy
open PySem PySem.Spec PyProof.Rows L2
theorem wipe_get {σ : L2.St} {k : Nat} : ∀ {vs : List Nat}, k ∉ vs → (wipe σ vs)[k]? = σ[k]?
  | [], _ => rfl
  | v :: vs, h => by
    show ((wipe σ vs).set v none)[k]? = σ[k]?
    rw [List.getElem?_set_ne (fun z => h (by rw [z]; exact List.mem_cons_self)), wipe_get fun z => h (List.mem_cons_of_mem _ z)]
theorem wipeT_get {τ : TEnv} {k : Nat} : ∀ {vs : List Nat}, k ∉ vs → (wipeT τ vs)[k]? = τ[k]?
  | [], _ => rfl
  | v :: vs, h => by
    show ((wipeT τ vs).set v none)[k]? = τ[k]?
    rw [List.getElem?_set_ne (fun z => h (by rw [z]; exact List.mem_cons_self)), wipeT_get fun z => h (List.mem_cons_of_mem _ z)]
theorem wipe_of {σ σ' : L2.St} {vs : List Nat} (h : wipe σ' vs = wipe σ vs) {k : Nat} (hk : k ∉ vs) : σ'[k]? = σ[k]? := by
  rw [← wipe_get (σ := σ') hk, h, wipe_get hk]
theorem wipe_len {σ : L2.St} : ∀ {vs : List Nat}, (wipe σ vs).length = σ.length
  | [] => rfl
  | v :: vs => by
    show ((wipe σ vs).set v none).length = _
    rw [List.length_set, wipe_len]
theorem wipe_in {σ : L2.St} {k : Nat} : ∀ {vs : List Nat}, k ∈ vs → k < σ.length → (wipe σ vs)[k]? = some none
  | v :: vs, h, hl => by
    show ((wipe σ vs).set v none)[k]? = some none
    by_cases e : v = k
    · subst e
      exact List.getElem?_set_self (by rw [wipe_len]; exact hl)
    · rw [List.getElem?_set_ne e]
      exact wipe_in ((List.mem_cons.mp h).resolve_left (fun z => e z.symm)) hl
theorem wipe_eq {σ σ' : L2.St} {vs : List Nat} (hl : σ'.length = σ.length) (h : ∀ k, k ∉ vs → σ'[k]? = σ[k]?) : wipe σ' vs = wipe σ vs := by
  refine List.ext_getElem? fun k => ?_
  by_cases hk : k ∈ vs
  · by_cases hlt : k < σ.length
    · rw [wipe_in hk hlt, wipe_in hk (by rw [hl]; exact hlt)]
    · rw [List.getElem?_eq_none (by rw [wipe_len]; omega), List.getElem?_eq_none (by rw [wipe_len]; omega)]
  · rw [wipe_get hk, wipe_get hk, h k hk]
/-- a target whose names are a block's own -/
def TgW (g : TG) (vs : List Nat) (x : PV) (τ τ' : TEnv) : Prop := ∀ (G0 H0 : Hp) (bs : List Addr) (σ : L2.St) (G H : Hp) (v : V), StT G0 H0 bs G H σ τ → Rep G v x → ∀ Q : L2.St → Hp → Prop, (∀ σ', StT G0 H0 bs G H σ' τ' → wipe σ' vs = wipe σ vs → Q σ' H) → g v σ H Q
def TgsW (g : TGs) (vs : List Nat) (xs : List PV) (τ τ' : TEnv) : Prop := ∀ (G0 H0 : Hp) (bs : List Addr) (σ : L2.St) (G H : Hp) (ws : List V), StT G0 H0 bs G H σ τ → Reps G ws xs → ∀ Q : L2.St → Hp → Prop, (∀ σ', StT G0 H0 bs G H σ' τ' → wipe σ' vs = wipe σ vs → Q σ' H) → g ws σ H Q
section
variable {τ τ1 τ2 τ3 : TEnv} {x : PV} {vs : List Nat} {g : TG}
theorem tw_name {i : Nat} (hi : i ∈ vs) : TgW (gName i) vs x τ (τ.set i (some (.val x))) := fun _ _ _ σ G H v s r Q q => q _ (s.set i r) (wipe_eq (by rw [List.length_set]) fun k hk => List.getElem?_set_ne (fun z => hk (by rw [← z]; exact hi)))
theorem tws_nil : TgsW gNil vs [] τ τ := fun _ _ _ _ G H ws s r Q q => by
  cases r
  exact ⟨rfl, q _ s rfl⟩
theorem tws_cons {gs : TGs} {xs : List PV} (h : TgW g vs x τ τ1) (h2 : TgsW gs vs xs τ1 τ2) : TgsW (gCons g gs) vs (x :: xs) τ τ2 := fun _ _ _ _ G H ws s r Q q => by
  cases r with
  | cons r1 r2 => exact ⟨_, _, rfl, h _ _ _ _ _ _ _ s r1 _ fun σ1 s1 w1 => h2 _ _ _ _ _ _ _ s1 r2 Q fun σ2 s2 w2 => q σ2 s2 (w2.trans w1)⟩
theorem tw_tup {K : PySem.W.Frag} {n : Nat} {gs : TGs} {xs : List PV} (h : TgsW gs vs xs τ τ1) (hn : xs.length = n) : TgW (gTup K n gs) vs (.tup xs) τ τ1 := fun _ _ _ _ G H v s r Q q => by
  cases r with
  | tup hv r => exact ⟨_, _, rfl, SqT.of (s.sub _ _ hv), by rw [r.length]; exact hn, h _ _ _ _ _ _ _ s r Q q⟩
end
/-- the addresses of what may change -/
def muts (σ : L2.St) (τ : TEnv) : List Addr := (List.range τ.length).filterMap fun i => match (τ[i]? : Option (Option Sl)), (σ[i]? : Option (Option V)) with
  | some (some (.mu _ _)), some (some (.ref a)) => some a
  | _, _ => none
theorem mem_muts {σ : L2.St} {τ : TEnv} {a : Addr} : a ∈ muts σ τ ↔ ∃ (i : Nat) (o : Bool) (c : Cell), τ[i]? = some (some (.mu o c)) ∧ σ[i]? = some (some (.ref a)) := by
  unfold muts
  rw [List.mem_filterMap]
  constructor
  · rintro ⟨i, _, h⟩
    split at h
    · rename_i o c b e1 e2
      cases h
      exact ⟨i, o, c, e1, e2⟩
    · cases h
  · rintro ⟨i, o, c, e1, e2⟩
    refine ⟨i, List.mem_range.mpr (List.getElem?_eq_some_iff.mp e1).1, ?_⟩
    rw [e1, e2]
theorem lentT_get {τ : TEnv} {i : Nat} : (lentT τ)[i]? = (τ[i]?).map lent := by
  unfold lentT
  rw [List.getElem?_map]
theorem lentT_mu {τ : TEnv} {i : Nat} {o : Bool} {c : Cell} (h : (lentT τ)[i]? = some (some (.mu o c))) : o = false ∧ ∃ o', τ[i]? = some (some (.mu o' c)) := by
  rw [lentT_get] at h
  cases e : τ[i]? with
  | none => rw [e] at h; cases h
  | some s =>
    rw [e] at h
    cases s with
    | none => cases h
    | some t =>
      cases t with
      | val y => cases h
      | mu o' c' =>
        have h' : some (some (Sl.mu false c')) = some (some (Sl.mu o c)) := h
        cases h'
        exact ⟨rfl, o', rfl⟩
theorem lentT_val {τ : TEnv} {i : Nat} {x : PV} (h : (lentT τ)[i]? = some (some (.val x))) : τ[i]? = some (some (.val x)) := by
  rw [lentT_get] at h
  cases e : τ[i]? with
  | none => rw [e] at h; cases h
  | some s =>
    rw [e] at h
    cases s with
    | none => cases h
    | some t =>
      cases t with
      | val y => exact h
      | mu o' c' => cases h
section
variable {G0 H0 G H G1 H1 G2 H2 : Hp} {bs : List Addr} {σ σ2 : L2.St} {τ τ' τ2 : TEnv}
/-- all that may change is lent, from here -/
theorem StT.lend (s : StT G0 H0 bs G H σ τ) : StT G H (muts σ τ) G H σ (lentT τ) := by
  refine ⟨Same.refl _, fun _ _ e _ => e, fun b o e => ⟨o, e⟩, s.sub, fun _ _ _ => rfl, fun b hb => ?_, by unfold lentT; rw [List.length_map]; exact s.len, fun i t e => ?_, fun i j o c o' c' v h1 h2 h3 h4 => ?_⟩
  · obtain ⟨i, o, c, e1, e2⟩ := mem_muts.mp hb
    obtain ⟨v, h1, a, ev, n, k, _⟩ := s.env i _ e1
    rw [e2] at h1
    cases h1
    cases ev
    exact ⟨k.ex, n⟩
  · cases t with
    | val x =>
      obtain ⟨v, h1, h2⟩ := s.env i _ (lentT_val e)
      exact ⟨v, h1, h2⟩
    | mu o c =>
      obtain ⟨rfl, o', e'⟩ := lentT_mu e
      obtain ⟨v, h1, a, ev, n, k, _⟩ := s.env i _ e'
      subst ev
      exact ⟨_, h1, a, rfl, n, k, (fun z => Bool.noConfusion z), fun _ => mem_muts.mpr ⟨i, o', c, e', h1⟩⟩
  · obtain ⟨_, o1, e1⟩ := lentT_mu h1
    obtain ⟨_, o2, e2⟩ := lentT_mu h2
    exact s.dis i j _ _ _ _ v e1 e2 h3 h4
/-- the same slots, but for what is in what may change -/
structure Shp (τ τ' : TEnv) : Prop where
  len : τ'.length = τ.length
  val : ∀ (k : Nat) (x : PV), τ'[k]? = some (some (.val x)) → τ[k]? = some (some (.val x))
  mu : ∀ (k : Nat) (o : Bool) (c : Cell), τ'[k]? = some (some (.mu o c)) → ∃ c', τ[k]? = some (some (.mu o c'))
  um : ∀ (k : Nat) (o : Bool) (c : Cell), τ[k]? = some (some (.mu o c)) → ∃ c', τ'[k]? = some (some (.mu o c'))
theorem Shp.refl (τ : TEnv) : Shp τ τ := ⟨rfl, fun _ _ h => h, fun _ _ c h => ⟨c, h⟩, fun _ _ c h => ⟨c, h⟩⟩
theorem Shp.set {j : Nat} {o : Bool} {c c' : Cell} (e : τ[j]? = some (some (.mu o c))) : Shp τ (τ.set j (some (.mu o c'))) := by
  have hl : j < τ.length := (List.getElem?_eq_some_iff.mp e).1
  refine ⟨by rw [List.length_set], fun k x h => ?_, fun k o1 c1 h => ?_, fun k o1 c1 h => ?_⟩
  · by_cases hk : j = k
    · subst hk; rw [List.getElem?_set_self hl] at h; cases h
    · rw [List.getElem?_set_ne hk] at h; exact h
  · by_cases hk : j = k
    · subst hk; rw [List.getElem?_set_self hl] at h; cases h; exact ⟨c, e⟩
    · rw [List.getElem?_set_ne hk] at h; exact ⟨c1, h⟩
  · by_cases hk : j = k
    · subst hk; rw [e] at h; cases h; exact ⟨c', List.getElem?_set_self hl⟩
    · rw [List.getElem?_set_ne hk]; exact ⟨c1, h⟩
/-- .. and given back -/
theorem StT.back {vs : List Nat} (s : StT G0 H0 bs G H σ τ) (s2 : StT G H (muts σ τ) G2 H2 σ2 τ2) (hσ : wipe σ2 vs = wipe σ vs) (sh : Shp τ τ') (hv : ∀ (k : Nat), k ∈ vs → ∀ o c, τ[k]? ≠ some (some (.mu o c)))
    (ht : ∀ (k : Nat), k ∉ vs → τ2[k]? = (lentT τ')[k]?) : StT G0 H0 bs G2 H2 σ τ' := by
  have nm : ∀ b o, H0 b = some o → b ∉ bs → b ∉ muts σ τ := fun b o e nb z => by
    obtain ⟨i, o', c, e1, e2⟩ := mem_muts.mp z
    obtain ⟨v, h1, a, ev, n, k, p1, p2⟩ := s.env i _ e1
    rw [e2] at h1
    cases h1
    cases ev
    cases o' with
    | true => rw [p1 rfl] at e; cases e
    | false => exact nb (p2 rfl)
  refine ⟨s.g.trans s2.g, fun b o e nb => s2.h b o (s.h b o e nb) (nm b o e nb), fun b o e => ?_, s2.sub, fun b o e => ?_, s.bor, by rw [sh.len]; exact s.len, fun k t e => ?_, fun i j o c o' c' v h1 h2 h3 h4 => ?_⟩
  · obtain ⟨u, hu⟩ := s.hn b o e
    exact s2.hn b u hu
  · obtain ⟨u, hu⟩ := s.hn b o e
    exact (s2.old b u hu).trans (s.old b o e)
  · cases t with
    | val x =>
      obtain ⟨v, h1, h2⟩ := s.env k _ (sh.val k x e)
      exact ⟨v, h1, Rep.mono s2.g h2⟩
    | mu o c =>
      obtain ⟨c0, e0⟩ := sh.mu k o c e
      have hk : k ∉ vs := fun z => hv k z o c0 e0
      obtain ⟨v, h1, a, ev, n, kc, p1, p2⟩ := s.env k _ e0
      subst ev
      have e2 : τ2[k]? = some (some (.mu false c)) := by
        rw [ht k hk, lentT_get, e]
        rfl
      obtain ⟨v2, w1, a2, ev2, n2, k2, _⟩ := s2.env k _ e2
      rw [wipe_of hσ hk, h1] at w1
      cases w1
      cases ev2
      exact ⟨_, h1, a, rfl, n2, k2, p1, p2⟩
  · obtain ⟨c1, e1⟩ := sh.mu i o c h1
    obtain ⟨c2, e2⟩ := sh.mu j o' c' h2
    exact s.dis i j _ _ _ _ v e1 e2 h3 h4
/-- a thing of which no slot tells changes -/
theorem StT.upD (s : StT G0 H0 bs G H σ τ) {D : Addr} {o : HO} (h0 : H0 D = none) (gD : G D = none) (nw : ∀ (k : Nat) (o : Bool) (c : Cell), τ[k]? = some (some (.mu o c)) → σ[k]? ≠ some (some (.ref D))) : StT G0 H0 bs G (upd H D o) σ τ := by
  refine ⟨s.g, fun b u e nb => ?_, fun b u e => ?_, fun b u e => ?_, s.old, s.bor, s.len, fun k t e => ?_, s.dis⟩
  · rw [upd_ne (ne_of_none e h0)]; exact s.h b u e nb
  · rw [upd_ne (ne_of_none e h0)]; exact s.hn b u e
  · rw [upd_ne (ne_of_none e gD)]; exact s.sub b u e
  · obtain ⟨v, h1, h2⟩ := s.env k t e
    refine ⟨v, h1, ?_⟩
    cases t with
    | val x => exact h2
    | mu o1 c =>
      obtain ⟨a, ev, n, kc, p⟩ := h2
      have na : a ≠ D := fun z => by subst z; subst ev; exact nw k _ _ e h1
      exact ⟨a, ev, n, kc.mono (Same.refl _) (fun u q => by rw [upd_ne na]; exact q), p⟩
end
theorem range_fm {β : Type} (F : Nat → Option β) (i : Nat) : (List.range (i + 1)).filterMap F = (List.range i).filterMap F ++ (match F i with | some y => [y] | none => []) := by
  rw [List.range_succ, List.filterMap_append]
  congr 1
  rw [List.filterMap_cons]
  cases F i <;> rfl
/-- a comprehension: what stands turn by turn, what is kept -/
theorem en_lc {wi : TI} {g : TG} {tt : TT} {te : TE} {vs : List Nat} {xs : List PV} {τ τ1 : TEnv} (τs : Nat → TEnv) (F : Nat → Option PV) (hi : ItR wi τ xs τ1) (h0 : τs 0 = τ1) (hsh : ∀ i j, Shp (τs i) (τs j))
    (hv : ∀ (k : Nat), k ∈ vs → ∀ o c, τ1[k]? ≠ some (some (.mu o c))) (hz : xs.length ≤ 100000)
    (hs : ∀ i x, xs[i]? = some x → ∃ τ2 τ3, TgW g vs x (wipeT (lentT (τs i)) vs) τ2 ∧ (match F i with | none => EvB tt τ2 false τ3 | some y => ∃ τ4, EvB tt τ2 true τ4 ∧ EvR te τ4 y τ3) ∧ ∀ (k : Nat), k ∉ vs → τ3[k]? = (lentT (τs (i + 1)))[k]?) :
    EvN (tLc wi g tt te vs) τ ((List.range xs.length).filterMap F) (τs xs.length) := by
  intro G0 H0 bs σ G H s Q q
  refine hi _ _ _ _ _ _ s _ fun J G1 H1 s1 e1 hJ => ?_
  intro D hD
  have h0D : H0 D = none := s1.new0 hD
  have nwD : ∀ i, ∀ (k : Nat) (o : Bool) (c : Cell), (τs i)[k]? = some (some (.mu o c)) → σ[k]? ≠ some (some (.ref D)) := fun i k o c e => by
    obtain ⟨c', e'⟩ := (hsh 0 i).mu k o c e
    rw [h0] at e'
    exact s1.nw hD k o c' e'
  have hvi : ∀ i, ∀ (k : Nat), k ∈ vs → ∀ o c, (τs i)[k]? ≠ some (some (.mu o c)) := fun i k hk o c e => by
    obtain ⟨c', e'⟩ := (hsh 0 i).mu k o c e
    rw [h0] at e'
    exact hv k hk o c' e'
  refine ⟨fun i m H' => ∃ G' acc, i + m = xs.length ∧ StT G0 H0 bs G' H' σ (τs i) ∧ Same G1 G' ∧ G' D = none ∧ H' D = some (.lst acc) ∧ Reps G' acc ((List.range i).filterMap F), ⟨xs.length, G1, [], by omega, by rw [h0]; exact s1.lay hD, Same.refl _, s1.sub.free hD, upd_same, .nil⟩, ?_⟩
  rintro i m H' ⟨G', acc, hm, s', g1, gD, hDl, hacc⟩
  obtain ⟨y1, y2⟩ := hJ i G' H' g1 s'.sub
  by_cases hl : i < xs.length
  · obtain ⟨go, yl⟩ := y1 xs[i] (List.getElem?_eq_getElem hl)
    obtain ⟨τ2, τ3, hT, hF, hk⟩ := hs i _ (List.getElem?_eq_getElem hl)
    refine .inr ⟨go, fun H3 => ∃ G3 acc3, StT G0 H0 bs G3 H3 σ (τs (i + 1)) ∧ Same G1 G3 ∧ G3 D = none ∧ H3 D = some (.lst acc3) ∧ Reps G3 acc3 ((List.range (i + 1)).filterMap F), fun H3 ⟨G3, acc3, z1, z2, z3, z4, z5⟩ => ⟨m - 1, by omega, G3, acc3, by omega, z1, z2, z3, z4, z5⟩, fun v H2 hy => ?_⟩
    obtain ⟨G2, g2, r2⟩ := yl v H2 hy
    have s2 := s'.gr g2
    have gD2 : G2 D = none := (g2.old D _ hDl).trans gD
    have hD2 : H2 D = some (.lst acc) := g2.h _ _ hDl
    have nD : D ∉ muts σ (τs i) := fun z => by
      obtain ⟨k, o, c, z1, z2⟩ := mem_muts.mp z
      exact nwD i k o c z1 z2
    refine hT _ _ _ _ _ _ _ (s2.lend.wiped vs) r2 _ fun σ2 s3 w3 => ?_
    have w4 : wipe σ2 vs = wipe σ vs := by
      rw [w3]
      exact wipe_eq wipe_len fun k hk => wipe_get hk
    refine ⟨w4, ?_⟩
    cases hFi : F i with
    | none =>
      rw [hFi] at hF
      refine hF _ _ _ _ _ _ s3 _ fun G3 H3 s5 e5 => ?_
      show ∃ G3 acc3, _
      refine ⟨G3, acc, s2.back s5 w4 (hsh i (i + 1)) (hvi i) hk, (g1.trans g2.g).trans e5, (s5.old D _ hD2).trans gD2, s5.h D _ hD2 nD, ?_⟩
      rw [range_fm, hFi, List.append_nil]
      exact (hacc.mono g2.g).mono e5
    | some y =>
      rw [hFi] at hF
      obtain ⟨τ4, hB, hE⟩ := hF
      refine hB _ _ _ _ _ _ s3 _ fun G3 H3 s5 e5 => ?_
      show te σ2 H3 _
      refine hE _ _ _ _ _ _ s5 _ fun w G4 H4 s6 e6 r6 => ?_
      have hD4 : H4 D = some (.lst acc) := s6.h D _ hD2 nD
      have gD4 : G4 D = none := (s6.old D _ hD2).trans gD2
      refine ⟨acc, hD4, ?_, ?_⟩
      · rw [hacc.length]
        refine Nat.lt_of_le_of_lt (List.length_filterMap_le _ _) ?_
        rw [List.length_range]
        exact Nat.lt_of_lt_of_le hl (Nat.le_trans hz (by decide))
      · have sb := s2.back s6 w4 (hsh i (i + 1)) (hvi i) hk
        refine ⟨G4, acc ++ [w], sb.upD h0D gD4 (nwD (i + 1)), ((g1.trans g2.g).trans e5).trans e6, gD4, upd_same, ?_⟩
        rw [range_fm, hFi]
        exact (((hacc.mono g2.g).mono e5).mono e6).snoc r6
  · have e : i = xs.length := by omega
    subst e
    exact .inl ⟨y2 rfl, q D acc G' H' s' (e1.trans g1) h0D gD hDl hacc (nwD _)⟩
/-- nothing changes on the way -/
theorem en_lcP {wi : TI} {g : TG} {tt : TT} {te : TE} {vs : List Nat} {xs : List PV} {τ τ1 : TEnv} (F : PV → Option PV) (hi : ItR wi τ xs τ1)
    (hv : ∀ (k : Nat), k ∈ vs → ∀ o c, τ1[k]? ≠ some (some (.mu o c))) (hz : xs.length ≤ 100000)
    (hs : ∀ x, x ∈ xs → ∃ τ2, TgW g vs x (wipeT (lentT τ1) vs) τ2 ∧ (match F x with | none => EvB tt τ2 false τ2 | some y => EvB tt τ2 true τ2 ∧ EvR te τ2 y τ2) ∧ ∀ (k : Nat), k ∉ vs → τ2[k]? = (lentT τ1)[k]?) :
    EvN (tLc wi g tt te vs) τ (xs.filterMap F) τ1 := by
  have key := en_lc (te := te) (tt := tt) (g := g) (fun _ => τ1) (fun i => (xs[i]?).bind F) hi rfl (fun _ _ => Shp.refl _) hv hz (fun i x hx => by
    obtain ⟨τ2, a, b, c⟩ := hs x (List.mem_of_getElem? hx)
    refine ⟨τ2, τ2, a, ?_, c⟩
    rw [hx]
    show (match F x with | none => EvB tt τ2 false τ2 | some y => ∃ τ4, EvB tt τ2 true τ4 ∧ EvR te τ4 y τ2)
    cases hF : F x with
    | none => rw [hF] at b; exact b
    | some y => rw [hF] at b; exact ⟨τ2, b.1, b.2⟩)
  have e : ∀ (l : List PV), (List.range l.length).filterMap (fun i => (l[i]?).bind F) = l.filterMap F := fun l => by
    induction l with
    | nil => rfl
    | cons a l ih =>
      rw [List.length_cons, List.range_succ_eq_map, List.filterMap_cons, List.filterMap_map, List.filterMap_cons]
      have : (fun i => ((a :: l)[i]?).bind F) ∘ Nat.succ = fun i => (l[i]?).bind F := by
        funext i
        simp
      rw [this, ih]
      simp

  rw [e xs] at key
  exact key
end TLy
end
section
set_option maxRecDepth 100000
set_option maxHeartbeats 2000000
namespace TLy
open PySem PySem.Spec PyProof.Rows L2
theorem small {n : Nat} (h : n ≤ 1000000) : n ≤ sizeLine := Nat.le_trans h (by rw [sizeLine_eq]; decide)
section
variable {K : PySem.W.Frag} {x y z : PV}
/-! ### operations on values -/
theorem r_I0 {g : Int → Int → V} {i j : Int} {z : PV} (h : ∀ G, Rep G (g i j) z) : RvR (rI0 g) (.int i) (.int j) z := fun G H e v u r1 r2 => by
  cases r1
  cases r2
  exact Rv.ret e (h G) fun Q q => ⟨i, j, rfl, rfl, q⟩
theorem r_I {C : Int → Int → Prop} {g : Int → Int → V} {i j : Int} {z : PV} (hc : C i j) (h : ∀ G, Rep G (g i j) z) : RvR (rI C g) (.int i) (.int j) z := fun G H e v u r1 r2 => by
  cases r1
  cases r2
  exact Rv.ret e (h G) fun Q q => ⟨i, j, rfl, rfl, hc, q⟩
theorem r_add {i j : Int} : RvR (rI0 fun i j => .int (i + j)) (.int i) (.int j) (.int (i + j)) := r_I0 fun _ => .int _
theorem r_sub {i j : Int} : RvR (rI0 fun i j => .int (i - j)) (.int i) (.int j) (.int (i - j)) := r_I0 fun _ => .int _
theorem r_mul {i j : Int} (h : CMul i j) : RvR (rI CMul fun i j => .int (i * j)) (.int i) (.int j) (.int (i * j)) := r_I h fun _ => .int _
theorem r_mulW {i j : Int} (h : CMulW i j) : RvR (rI CMulW fun i j => .int (i * j)) (.int i) (.int j) (.int (i * j)) := r_I h fun _ => .int _
theorem r_fdivN {i j : Int} (h : CDivN i j) : RvR (rI CDivN fun i j => .int (i.fdiv j)) (.int i) (.int j) (.int (i.fdiv j)) := r_I h fun _ => .int _
theorem r_modN {i j : Int} (h : j ≠ 0) : RvR (rI (fun _ j => j ≠ 0) fun i j => .int (i.fmod j)) (.int i) (.int j) (.int (i.fmod j)) := r_I h fun _ => .int _
theorem r_pow {i j : Int} (h : CPow i j) : RvR (rI CPow fun i j => .int (i ^ j.toNat)) (.int i) (.int j) (.int (i ^ j.toNat)) := r_I h fun _ => .int _
theorem r_lt {i j : Int} : RvR (rI0 fun i j => .bl (decide (i < j))) (.int i) (.int j) (.bl (decide (i < j))) := r_I0 fun _ => .bl _
theorem r_le {i j : Int} : RvR (rI0 fun i j => .bl (decide (i ≤ j))) (.int i) (.int j) (.bl (decide (i ≤ j))) := r_I0 fun _ => .bl _
theorem r_gt {i j : Int} : RvR (rI0 fun i j => .bl (decide (j < i))) (.int i) (.int j) (.bl (decide (j < i))) := r_I0 fun _ => .bl _
theorem r_ge {i j : Int} : RvR (rI0 fun i j => .bl (decide (j ≤ i))) (.int i) (.int j) (.bl (decide (j ≤ i))) := r_I0 fun _ => .bl _
theorem u_neg {i : Int} : RvU (rU fun i => .int (-i)) (.int i) (.int (-i)) := fun G H e v r => by
  cases r
  exact Rv.ret e (.int _) fun Q q => ⟨i, rfl, q⟩
theorem r_addS {a b : Str} (h : a.length + b.length ≤ sizeLine) : RvR (fun x y H Q => ∃ i j, x = .str i ∧ y = .str j ∧ i.length + j.length ≤ sizeLine ∧ Q (.str (i ++ j)) H) (.str a) (.str b) (.str (a ++ b)) := fun G H e v u r1 r2 => by
  cases r1
  cases r2
  exact Rv.ret e (.str _) fun Q q => ⟨a, b, rfl, rfl, h, q⟩
theorem r_eqI {i j : Int} : RvR rEq (.int i) (.int j) (.bl (decide (i = j))) := fun G H e v u r1 r2 => by
  cases r1
  cases r2
  refine Rv.ret e (.bl _) fun Q q => ⟨rfl, ?_⟩
  have : decide (V.int i = V.int j) = decide (i = j) := by simp
  rw [this]
  exact q
theorem r_neI {i j : Int} : RvR rNe (.int i) (.int j) (.bl (!decide (i = j))) := fun G H e v u r1 r2 => by
  cases r1
  cases r2
  refine Rv.ret e (.bl _) fun Q q => ⟨rfl, ?_⟩
  have : decide (V.int i = V.int j) = decide (i = j) := by simp
  rw [this]
  exact q
theorem r_eqS {i j : Str} : RvR rEq (.str i) (.str j) (.bl (decide (i = j))) := fun G H e v u r1 r2 => by
  cases r1
  cases r2
  refine Rv.ret e (.bl _) fun Q q => ⟨rfl, ?_⟩
  have : decide (V.str i = V.str j) = decide (i = j) := by simp
  rw [this]
  exact q
theorem r_neS {i j : Str} : RvR rNe (.str i) (.str j) (.bl (!decide (i = j))) := fun G H e v u r1 r2 => by
  cases r1
  cases r2
  refine Rv.ret e (.bl _) fun Q q => ⟨rfl, ?_⟩
  have : decide (V.str i = V.str j) = decide (i = j) := by simp
  rw [this]
  exact q
theorem r_eqB {i j : Bool} : RvR rEq (.bl i) (.bl j) (.bl (decide (i = j))) := fun G H e v u r1 r2 => by
  cases r1
  cases r2
  refine Rv.ret e (.bl _) fun Q q => ⟨rfl, ?_⟩
  have : decide (V.bl i = V.bl j) = decide (i = j) := by simp
  rw [this]
  exact q
theorem r_eqN : RvR rEq .non .non (.bl true) := fun G H e v u r1 r2 => by
  cases r1
  cases r2
  exact Rv.ret e (.bl _) fun Q q => ⟨rfl, q⟩
theorem r_leS {a b : Str} : RvR (fun x y H Q => ∃ i j, x = .str i ∧ y = .str j ∧ Q (.bl (!decide (j.cps.toList < i.cps.toList))) H) (.str a) (.str b) (.bl (!decide (b.cps.toList < a.cps.toList))) := fun G H e v u r1 r2 => by
  cases r1
  cases r2
  exact Rv.ret e (.bl _) fun Q q => ⟨a, b, rfl, rfl, q⟩
theorem r_inSign {c : Nat} {z : Str} : RvR (fun x y H Q => ∃ (c : Nat) (z : Str), x = .str ⟨#[c]⟩ ∧ y = .str z ∧ Q (.bl (decide (c ∈ z.cps.toList))) H) (.str ⟨#[c]⟩) (.str z) (.bl (decide (c ∈ z.cps.toList))) := fun G H e v u r1 r2 => by
  cases r1
  cases r2
  exact Rv.ret e (.bl _) fun Q q => ⟨c, z, rfl, rfl, q⟩
theorem r_isN {x : PV} : RvR (fun x y H Q => y = .non ∧ Q (.bl (decide (x = .non))) H) x .non (.bl (match x with | .non => true | _ => false)) := fun G H e v u r1 r2 => by
  cases r2
  cases r1 <;> exact Rv.ret e (.bl _) fun Q q => ⟨rfl, q⟩
theorem r_notN {x : PV} : RvR (fun x y H Q => y = .non ∧ Q (.bl (!decide (x = .non))) H) x .non (.bl (match x with | .non => false | _ => true)) := fun G H e v u r1 r2 => by
  cases r2
  cases r1 <;> exact Rv.ret e (.bl _) fun Q q => ⟨rfl, q⟩
/-! tuples, lists -/
theorem r_catT {xs ys : List PV} (h : xs.length + ys.length ≤ sizeLine) : RvR (rCatA K) (.tup xs) (.tup ys) (.tup (xs ++ ys)) := fun G H e v u r1 r2 => by
  cases r1 with
  | @tup a vs _ h1 q1 =>
    cases r2 with
    | @tup b us _ h2 q2 =>
      intro Q q
      refine ⟨a, b, vs, us, rfl, rfl, SqT.of (e _ _ h1), SqT.of (e _ _ h2), by rw [q1.length, q2.length]; exact h, fun z => ?_, fun _ z => ?_, fun _ _ p hp => ?_⟩
      · subst z
        cases q1
        exact q _ G H (Gr.refl e) (.tup h2 q2)
      · subst z
        cases q2
        rw [List.append_nil] at q
        exact q _ G H (Gr.refl e) (.tup h1 q1)
      · exact q _ _ _ (Gr.new e hp) (.tup upd_same ((q1.append q2).mono (Gr.new e hp).g))
theorem r_catL {xs ys : List PV} (h : xs.length + ys.length ≤ sizeLine) : RvR rCat (.lst xs) (.lst ys) (.lst (xs ++ ys)) := fun G H e v u r1 r2 => by
  cases r1 with
  | @lst a vs _ h1 q1 =>
    cases r2 with
    | @lst b us _ h2 q2 =>
      exact Rv.newL e (q1.append q2) fun Q q => ⟨a, b, vs, us, rfl, rfl, e _ _ h1, e _ _ h2, by rw [q1.length, q2.length]; exact h, q⟩
theorem r_repL {xs : List PV} {k : Int} (h1 : -(2 ^ 63) ≤ k) (h2 : k < 2 ^ 63) (h : xs.length * k.toNat ≤ sizeLine) : RvR rRep (.lst xs) (.int k) (.lst (List.replicate k.toNat xs).flatten) := fun G H e v u r1 r2 => by
  cases r2
  cases r1 with
  | @lst a vs _ hv q1 =>
    exact Rv.newL e (q1.flat k.toNat) fun Q q => ⟨a, k, vs, rfl, rfl, e _ _ hv, h1, h2, by rw [q1.length]; exact h, q⟩
theorem r_repT {xs : List PV} {k : Int} (h1 : 2 ≤ k) (h2 : k ≤ 1000) (hn : xs ≠ []) (h : xs.length ≤ 1000) : RvR (rRepT K) (.tup xs) (.int k) (.tup (List.replicate k.toNat xs).flatten) := fun G H e v u r1 r2 => by
  cases r2
  cases r1 with
  | @tup a vs _ hv q1 =>
    refine Rv.newT e (q1.flat k.toNat) fun Q q => ⟨a, k, vs, rfl, rfl, SqT.of (e _ _ hv), fun z => hn ?_, h1, h2, by rw [q1.length]; exact h, q⟩
    subst z
    cases q1
    rfl
theorem r_ixT {xs : List PV} {n : Int} (h : atI xs n = some x) : RvR (rIxT K) (.tup xs) (.int n) x := fun G H e v u r1 r2 => by
  cases r2
  cases r1 with
  | @tup a vs _ hv q1 =>
    unfold atI at h
    rw [← q1.length] at h
    cases hj : ixN vs.length n with
    | none => rw [hj] at h; cases h
    | some j =>
      rw [hj] at h
      obtain ⟨w, w1, w2⟩ := q1.get (show xs[j]? = some x from h)
      exact Rv.ret e w2 fun Q q => ⟨a, vs, n, w, rfl, rfl, SqT.of (e _ _ hv), by unfold atI; rw [hj]; exact w1, q⟩
theorem r_ixL {xs : List PV} {n : Int} (h : atI xs n = some x) : RvR (rIxL K) (.lst xs) (.int n) x := fun G H e v u r1 r2 => by
  cases r2
  cases r1 with
  | @lst a vs _ hv q1 =>
    unfold atI at h
    rw [← q1.length] at h
    cases hj : ixN vs.length n with
    | none => rw [hj] at h; cases h
    | some j =>
      rw [hj] at h
      obtain ⟨w, w1, w2⟩ := q1.get (show xs[j]? = some x from h)
      exact Rv.ret e w2 fun Q q => ⟨a, vs, n, w, rfl, rfl, SqL.of (e _ _ hv), by unfold atI; rw [hj]; exact w1, q⟩
theorem r_ixS {z : Str} {n : Int} {c : Nat} (hz : z.length ≤ sizeLine) (h : atI z.cps.toList n = some c) : RvR rIxS (.str z) (.int n) (.str ⟨#[c]⟩) := fun G H e v u r1 r2 => by
  cases r1
  cases r2
  exact Rv.ret e (.str _) fun Q q => ⟨z, n, c, rfl, rfl, hz, h, q⟩
theorem u_slS {z : Str} {lo hi : Option Int} (hz : z.length ≤ sizeLine) : RvU (fun v => rSlS v lo hi) (.str z) (.str (cutS z lo hi)) := fun G H e v r => by
  cases r
  exact Rv.ret e (.str _) fun Q q => ⟨z, rfl, hz, q⟩
def cutP (xs : List PV) (lo hi : Option Int) : List PV := (xs.drop (HT.sIx xs.length 0 lo)).take (HT.sIx xs.length xs.length hi - HT.sIx xs.length 0 lo)
theorem Reps.cut {G : Hp} {vs : List V} {xs : List PV} (r : Reps G vs xs) (lo hi : Option Int) : Reps G (cutV vs lo hi) (cutP xs lo hi) := by
  unfold cutV cutP
  rw [r.length]
  exact (r.drop _).take _
theorem u_slT {xs : List PV} {lo hi : Option Int} : RvU (fun v => rSlA K v lo hi) (.tup xs) (.tup (cutP xs lo hi)) := fun G H e v r => by
  cases r with
  | @tup a vs _ hv q1 =>
    intro Q q
    refine ⟨a, vs, rfl, SqT.of (e _ _ hv), fun hw => ?_, fun _ p hp => ?_⟩
    · have ec : cutP xs lo hi = xs := by
        unfold cutP
        rw [← q1.length, hw.1, hw.2, List.drop_zero, Nat.sub_zero, q1.length, List.take_length]
      rw [ec] at q
      exact q _ G H (Gr.refl e) (.tup hv q1)
    · exact q _ _ _ (Gr.new e hp) (.tup upd_same ((q1.cut lo hi).mono (Gr.new e hp).g))
theorem u_slL {xs : List PV} {lo hi : Option Int} : RvU (fun v => rSlL K v lo hi) (.lst xs) (.lst (cutP xs lo hi)) := fun G H e v r => by
  cases r with
  | @lst a vs _ hv q1 => exact Rv.newL e (q1.cut lo hi) fun Q q => ⟨a, vs, rfl, SqL.of (e _ _ hv), q⟩
/-! calls -/
theorem c_lenS {z : Str} (hz : z.length ≤ sizeLine) : RvC (fun xs H Q => ∃ x n, xs = [x] ∧ LenV K x H n ∧ Q (.int n) H) [.str z] (.int z.length) := fun G H e vs r => by
  cases r with
  | cons r1 r2 =>
    cases r1
    cases r2
    exact Rv.ret e (.int _) fun Q q => ⟨_, _, rfl, ⟨hz, rfl⟩, q⟩
theorem c_lenT {xs : List PV} : RvC (fun xs H Q => ∃ x n, xs = [x] ∧ LenV K x H n ∧ Q (.int n) H) [.tup xs] (.int xs.length) := fun G H e vs r => by
  cases r with
  | cons r1 r2 =>
    cases r2
    cases r1 with
    | @tup a ws _ hv q1 => exact Rv.ret e (.int _) fun Q q => ⟨_, _, rfl, .inr ⟨ws, SqT.of (e _ _ hv), q1.length.symm⟩, q⟩
theorem c_lenL {xs : List PV} : RvC (fun xs H Q => ∃ x n, xs = [x] ∧ LenV K x H n ∧ Q (.int n) H) [.lst xs] (.int xs.length) := fun G H e vs r => by
  cases r with
  | cons r1 r2 =>
    cases r2
    cases r1 with
    | @lst a ws _ hv q1 => exact Rv.ret e (.int _) fun Q q => ⟨_, _, rfl, .inl ⟨ws, SqL.of (e _ _ hv), q1.length.symm⟩, q⟩
theorem c_strI {i : Int} (h : i.natAbs.log2 < 1920) : RvC (fun xs H Q => ∃ i, xs = [.int i] ∧ i.natAbs.log2 < 1920 ∧ Q (.str (toString i)) H) [.int i] (.str (toString i)) := fun G H e vs r => by
  cases r with
  | cons r1 r2 =>
    cases r1
    cases r2
    exact Rv.ret e (.str _) fun Q q => ⟨_, rfl, h, q⟩
theorem c_intI {i : Int} : RvC (fun xs H Q => (∃ i, xs = [.int i] ∧ Q (.int i) H) ∨ ∃ k, xs = [.bl k] ∧ Q (.int (if k then 1 else 0)) H) [.int i] (.int i) := fun G H e vs r => by
  cases r with
  | cons r1 r2 =>
    cases r1
    cases r2
    exact Rv.ret e (.int _) fun Q q => .inl ⟨_, rfl, q⟩
theorem c_intS {a : Str} {n : Int} (h : PySem.intText? a = some n) (hl : a.length ≤ 640) : RvC (fun xs H Q => ∃ a n, xs = [.str a] ∧ PySem.intText? a = some n ∧ a.length ≤ 640 ∧ Q (.int n) H) [.str a] (.int n) := fun G H e vs r => by
  cases r with
  | cons r1 r2 =>
    cases r1
    cases r2
    exact Rv.ret e (.int _) fun Q q => ⟨_, n, rfl, h, hl, q⟩
theorem c_ord {c : Nat} : RvC (fun xs H Q => ∃ x, xs = [.str x] ∧ x.length = 1 ∧ Q (.int (x.cps.getD 0 0 : Nat)) H) [.str ⟨#[c]⟩] (.int c) := fun G H e vs r => by
  cases r with
  | cons r1 r2 =>
    cases r1
    cases r2
    exact Rv.ret e (.int _) fun Q q => ⟨_, rfl, rfl, q⟩
theorem c_abs {i : Int} : RvC (fun xs H Q => ∃ i, xs = [.int i] ∧ Q (.int (if i < 0 then -i else i)) H) [.int i] (.int (if i < 0 then -i else i)) := fun G H e vs r => by
  cases r with
  | cons r1 r2 =>
    cases r1
    cases r2
    exact Rv.ret e (.int _) fun Q q => ⟨_, rfl, q⟩
theorem c_all {bs : List Bool} : RvC (rAll K) [.lst (bs.map .bl)] (.bl (bs.all id)) := fun G H e vs r => by
  cases r with
  | cons r1 r2 =>
    cases r2
    cases r1 with
    | lst hv q1 =>
      rw [q1.bools] at hv
      exact Rv.ret e (.bl _) fun Q q => ⟨_, bs, rfl, SqL.of (e _ _ hv), q⟩
theorem c_any {bs : List Bool} : RvC (rAny K) [.lst (bs.map .bl)] (.bl (bs.any id)) := fun G H e vs r => by
  cases r with
  | cons r1 r2 =>
    cases r2
    cases r1 with
    | lst hv q1 =>
      rw [q1.bools] at hv
      exact Rv.ret e (.bl _) fun Q q => ⟨_, bs, rfl, SqL.of (e _ _ hv), q⟩
theorem c_tupL {xs : List PV} : RvC (fun xs H Q => ∃ p ys, xs = [.ref p] ∧ ((SqL K H p ys ∧ ∀ l, H l = none → Q (.ref l) (upd H l (.tup ys))) ∨ (SqT K H p ys ∧ Q (.ref p) H))) [.lst xs] (.tup xs) := fun G H e vs r => by
  cases r with
  | cons r1 r2 =>
    cases r2
    cases r1 with
    | @lst a ws _ hv q1 => exact Rv.newT e q1 fun Q q => ⟨a, ws, rfl, .inl ⟨SqL.of (e _ _ hv), q⟩⟩
theorem c_tupT {xs : List PV} : RvC (fun xs H Q => ∃ p ys, xs = [.ref p] ∧ ((SqL K H p ys ∧ ∀ l, H l = none → Q (.ref l) (upd H l (.tup ys))) ∨ (SqT K H p ys ∧ Q (.ref p) H))) [.tup xs] (.tup xs) := fun G H e vs r => by
  cases r with
  | cons r1 r2 =>
    cases r2
    cases r1 with
    | @tup a ws _ hv q1 => exact Rv.ret e (.tup hv q1) fun Q q => ⟨a, ws, rfl, .inr ⟨SqT.of (e _ _ hv), q⟩⟩
theorem c_lstL {xs : List PV} : RvC (fun xs H Q => ∃ p ys, xs = [.ref p] ∧ (SqL K H p ys ∨ SqT K H p ys) ∧ ∀ l, H l = none → Q (.ref l) (upd H l (.lst ys))) [.lst xs] (.lst xs) := fun G H e vs r => by
  cases r with
  | cons r1 r2 =>
    cases r2
    cases r1 with
    | @lst a ws _ hv q1 => exact Rv.newL e q1 fun Q q => ⟨a, ws, rfl, .inl (SqL.of (e _ _ hv)), q⟩
theorem c_lstT {xs : List PV} : RvC (fun xs H Q => ∃ p ys, xs = [.ref p] ∧ (SqL K H p ys ∨ SqT K H p ys) ∧ ∀ l, H l = none → Q (.ref l) (upd H l (.lst ys))) [.tup xs] (.lst xs) := fun G H e vs r => by
  cases r with
  | cons r1 r2 =>
    cases r2
    cases r1 with
    | @tup a ws _ hv q1 => exact Rv.newL e q1 fun Q q => ⟨a, ws, rfl, .inr (SqT.of (e _ _ hv)), q⟩
/-- the class of a value, by its name -/
def tyN : PV → String
  | .non => "NoneType" | .bl _ => "bool" | .int _ => "int" | .str _ => "str" | .ty _ => "type" | .tup _ => "tuple" | .lst _ => "list"
theorem ty_of {G H : Hp} (e : Same G H) {v : V} (r : Rep G v x) (hx : ∀ m, x ≠ .ty m) : TyX K H v (.type (tyN x)) := by
  cases r with
  | non => exact .base .non
  | bl b => exact .base (.bl b)
  | int b => exact .base (.int b)
  | str b => exact .base (.str b)
  | ty n => exact absurd rfl (hx n)
  | tup h _ => exact .base (.tup (e _ _ h))
  | lst h _ => exact .base (.lst (e _ _ h))
theorem c_isi {n : String} {b : Bool} (hx : ∀ m, x ≠ .ty m) (hk : kitB (tyN x) n = some b) : RvC (rIsi K) [x, .ty n] (.bl b) := fun G H e vs r => by
  cases r with
  | cons r1 r2 =>
    cases r2 with
    | cons r3 r4 =>
      cases r4
      cases r3
      exact Rv.ret e (.bl _) fun Q q => ⟨_, _, _, _, b, rfl, .ty n, ty_of e r1 hx, kit_ty hk, q⟩
theorem c_isiN {n : String} {b : Bool} (hk : kitB "NoneType" n = some b) : RvC (rIsi K) [.non, .ty n] (.bl b) := c_isi (fun m z => by cases z) hk
theorem c_isiB {n : String} {b z : Bool} (hk : kitB "bool" n = some b) : RvC (rIsi K) [.bl z, .ty n] (.bl b) := c_isi (fun m z => by cases z) hk
theorem c_isiI {n : String} {b : Bool} {i : Int} (hk : kitB "int" n = some b) : RvC (rIsi K) [.int i, .ty n] (.bl b) := c_isi (fun m z => by cases z) hk
theorem c_isiS {n : String} {b : Bool} {i : Str} (hk : kitB "str" n = some b) : RvC (rIsi K) [.str i, .ty n] (.bl b) := c_isi (fun m z => by cases z) hk
theorem c_isiT {n : String} {b : Bool} {i : List PV} (hk : kitB "tuple" n = some b) : RvC (rIsi K) [.tup i, .ty n] (.bl b) := c_isi (fun m z => by cases z) hk
theorem c_isiL {n : String} {b : Bool} {i : List PV} (hk : kitB "list" n = some b) : RvC (rIsi K) [.lst i, .ty n] (.bl b) := c_isi (fun m z => by cases z) hk
theorem isi_NB : RvC (rIsi K) [.non, .ty "bool"] (.bl false) := c_isiN (by decide +kernel)
theorem isi_NI : RvC (rIsi K) [.non, .ty "int"] (.bl false) := c_isiN (by decide +kernel)
theorem isi_NS : RvC (rIsi K) [.non, .ty "str"] (.bl false) := c_isiN (by decide +kernel)
theorem isi_NT : RvC (rIsi K) [.non, .ty "tuple"] (.bl false) := c_isiN (by decide +kernel)
theorem isi_NL : RvC (rIsi K) [.non, .ty "list"] (.bl false) := c_isiN (by decide +kernel)
theorem isi_BB {z : Bool} : RvC (rIsi K) [.bl z, .ty "bool"] (.bl true) := c_isiB (by decide +kernel)
theorem isi_BI {z : Bool} : RvC (rIsi K) [.bl z, .ty "int"] (.bl true) := c_isiB (by decide +kernel)
theorem isi_BS {z : Bool} : RvC (rIsi K) [.bl z, .ty "str"] (.bl false) := c_isiB (by decide +kernel)
theorem isi_BT {z : Bool} : RvC (rIsi K) [.bl z, .ty "tuple"] (.bl false) := c_isiB (by decide +kernel)
theorem isi_BL {z : Bool} : RvC (rIsi K) [.bl z, .ty "list"] (.bl false) := c_isiB (by decide +kernel)
theorem isi_IB {z : Int} : RvC (rIsi K) [.int z, .ty "bool"] (.bl false) := c_isiI (by decide +kernel)
theorem isi_II {z : Int} : RvC (rIsi K) [.int z, .ty "int"] (.bl true) := c_isiI (by decide +kernel)
theorem isi_IS {z : Int} : RvC (rIsi K) [.int z, .ty "str"] (.bl false) := c_isiI (by decide +kernel)
theorem isi_IT {z : Int} : RvC (rIsi K) [.int z, .ty "tuple"] (.bl false) := c_isiI (by decide +kernel)
theorem isi_IL {z : Int} : RvC (rIsi K) [.int z, .ty "list"] (.bl false) := c_isiI (by decide +kernel)
theorem isi_SB {z : Str} : RvC (rIsi K) [.str z, .ty "bool"] (.bl false) := c_isiS (by decide +kernel)
theorem isi_SI {z : Str} : RvC (rIsi K) [.str z, .ty "int"] (.bl false) := c_isiS (by decide +kernel)
theorem isi_SS {z : Str} : RvC (rIsi K) [.str z, .ty "str"] (.bl true) := c_isiS (by decide +kernel)
theorem isi_ST {z : Str} : RvC (rIsi K) [.str z, .ty "tuple"] (.bl false) := c_isiS (by decide +kernel)
theorem isi_SL {z : Str} : RvC (rIsi K) [.str z, .ty "list"] (.bl false) := c_isiS (by decide +kernel)
theorem isi_TB {z : List PV} : RvC (rIsi K) [.tup z, .ty "bool"] (.bl false) := c_isiT (by decide +kernel)
theorem isi_TI {z : List PV} : RvC (rIsi K) [.tup z, .ty "int"] (.bl false) := c_isiT (by decide +kernel)
theorem isi_TS {z : List PV} : RvC (rIsi K) [.tup z, .ty "str"] (.bl false) := c_isiT (by decide +kernel)
theorem isi_TT {z : List PV} : RvC (rIsi K) [.tup z, .ty "tuple"] (.bl true) := c_isiT (by decide +kernel)
theorem isi_TL {z : List PV} : RvC (rIsi K) [.tup z, .ty "list"] (.bl false) := c_isiT (by decide +kernel)
theorem isi_LB {z : List PV} : RvC (rIsi K) [.lst z, .ty "bool"] (.bl false) := c_isiL (by decide +kernel)
theorem isi_LI {z : List PV} : RvC (rIsi K) [.lst z, .ty "int"] (.bl false) := c_isiL (by decide +kernel)
theorem isi_LS {z : List PV} : RvC (rIsi K) [.lst z, .ty "str"] (.bl false) := c_isiL (by decide +kernel)
theorem isi_LT {z : List PV} : RvC (rIsi K) [.lst z, .ty "tuple"] (.bl false) := c_isiL (by decide +kernel)
theorem isi_LL {z : List PV} : RvC (rIsi K) [.lst z, .ty "list"] (.bl true) := c_isiL (by decide +kernel)
theorem m_join {a : Str} {ys : List Str} (h : (ys.map (·.length)).sum + ys.length * a.length ≤ 16777216) : RvM (fun x xs H Q => ∃ a p, ∃ ys : List Str, x = .str a ∧ xs = [.ref p] ∧ (SqL K H p (ys.map V.str) ∨ SqT K H p (ys.map V.str)) ∧
    (ys.map (·.length)).sum + ys.length * a.length ≤ 16777216 ∧ Q (.str (Txt.join a ys)) H) (.str a) [.lst (ys.map .str)] (.str (Txt.join a ys)) := fun G H e v vs r1 r2 => by
  cases r1
  cases r2 with
  | cons r3 r4 =>
    cases r4
    cases r3 with
    | lst hv q1 =>
      rw [q1.strs] at hv
      exact Rv.ret e (.str _) fun Q q => ⟨a, _, ys, rfl, rfl, .inl (SqL.of (e _ _ hv)), h, q⟩
theorem tyV_str {z : Str} : ∀ (G H : Hp), Same G H → ∀ v, Rep G v (.str z) → tyV K "str" v H := fun G H e v r => by
  cases r
  rfl
end
/-! ### what may change: read, written -/
section
variable {K : PySem.W.Frag} {τ τ1 τ2 : TEnv} {x y : PV} {te : TE} {P : Post} {E : XK} {o : Bool}
theorem atI_reps {G : Hp} {vs : List V} {xs : List PV} {n : Int} (q : Reps G vs xs) (h : atI xs n = some x) : ∃ j w, ixN vs.length n = some j ∧ vs[j]? = some w ∧ atI vs n = some w ∧ Rep G w x := by
  unfold atI at h
  rw [← q.length] at h
  cases hj : ixN vs.length n with
  | none => rw [hj] at h; cases h
  | some j =>
    rw [hj] at h
    obtain ⟨w, w1, w2⟩ := q.get (show xs[j]? = some x from h)
    exact ⟨j, w, rfl, w1, by unfold atI; rw [hj]; exact w1, w2⟩
/-- an item of a list that may change -/
theorem ev_ixM {i : Nat} {xs : List PV} {n : Int} {ti : TE} (e : τ[i]? = some (some (.mu o (.lst xs)))) (hi : EvR ti τ (.int n) τ) (h : atI xs n = some x) : EvR (tOp (rIxL K) (tVar i) ti) τ x τ := fun G0 H0 bs σ G H s Q q => by
  obtain ⟨v, hv, a, ev, n', ⟨vs, ha, r⟩, _⟩ := s.env i _ e
  subst ev
  refine ⟨_, hv, ?_⟩
  refine hi _ _ _ _ _ _ s _ fun u G1 H1 s1 e1 r1 => ?_
  cases r1
  obtain ⟨v', hv', a', ev', n1, ⟨vs', ha', r'⟩, _⟩ := s1.env i _ e
  rw [hv] at hv'
  cases hv'
  cases ev'
  obtain ⟨j, w, _, _, w1, w2⟩ := atI_reps r' h
  exact ⟨a, vs', n, w, rfl, rfl, SqL.of ha', w1, q w G1 H1 s1 e1 w2⟩
theorem ev_lenM {i : Nat} {xs : List PV} (e : τ[i]? = some (some (.mu o (.lst xs)))) : EvR (tCB (fun xs H Q => ∃ x n, xs = [x] ∧ LenV K x H n ∧ Q (.int n) H) (tCons (tVar i) tNil)) τ (.int xs.length) τ := fun G0 H0 bs σ G H s Q q => by
  obtain ⟨v, hv, a, ev, n', ⟨vs, ha, r⟩, _⟩ := s.env i _ e
  subst ev
  exact ⟨_, hv, _, _, rfl, .inl ⟨vs, SqL.of ha, rfl⟩, by rw [r.length]; exact q _ G H s (Same.refl _) (.int _)⟩
/-- a list that may change becomes longer -/
theorem ex_app {i : Nat} {xs xs1 : List PV} (e : τ[i]? = some (some (.mu o (.lst xs)))) (h : EvR te τ y τ1) (e1 : τ1[i]? = some (some (.mu o (.lst xs1)))) (hz : xs1.length < 100000) (q : P.nx (τ1.set i (some (.mu o (.lst (xs1 ++ [y])))))) :
    Exec E (tDrop (tBM K "list" rAppend (tVar i) (tCons te tNil))) τ P := fun G0 H0 bs σ G H D s he hn hr hb hc => by
  obtain ⟨v, hv, a, ev, n', ⟨vs, ha, r⟩, _⟩ := s.env i _ e
  subst ev
  refine ⟨_, hv, .inl ⟨rfl, vs, SqL.of ha⟩, ?_⟩
  refine h _ _ _ _ _ _ s _ fun w G1 H1 s1 g1 r1 => ?_
  obtain ⟨v', hv', a', ev', n1, ⟨vs', ha', r'⟩, own, bor⟩ := s1.env i _ e1
  rw [hv] at hv'
  cases hv'
  cases ev'
  refine ⟨a, vs', w, rfl, rfl, ha', by rw [r'.length]; exact Nat.lt_of_lt_of_le hz (by decide), ?_⟩
  refine hn σ _ G1 _ q (s1.wr e1 hv (Same.refl _) (fun b u z nb => by rw [upd_ne nb]; exact z) (fun b u z => ?_) (fun _ _ _ => rfl) ⟨_, upd_same, r'.snoc r1⟩)
  rw [upd_ne (ne_of_none z n1)]
  exact s1.sub b u z
/-- .. an item of it changes -/
theorem ex_setM {i : Nat} {xs xs1 : List PV} {n : Int} {j : Nat} {ti : TE} (h : EvR te τ y τ1) (e1 : τ1[i]? = some (some (.mu o (.lst xs1)))) (hi : EvR ti τ1 (.int n) τ1) (hj : ixN xs1.length n = some j) (q : P.nx (τ1.set i (some (.mu o (.lst (xs1.set j y)))))) :
    Exec E (tAsg te (gSub (tVar i) ti rSetL)) τ P := fun G0 H0 bs σ G H D s he hn hr hb hc => by
  refine h _ _ _ _ _ _ s _ fun w G1 H1 s1 g1 r1 => ?_
  obtain ⟨v, hv, a, ev, n1, ⟨vs, ha, r⟩, _⟩ := s1.env i _ e1
  subst ev
  refine ⟨_, hv, ?_⟩
  refine hi _ _ _ _ _ _ s1 _ fun u G2 H2 s2 g2 r2 => ?_
  cases r2
  obtain ⟨v', hv', a', ev', n2, ⟨vs', ha', r'⟩, _⟩ := s2.env i _ e1
  rw [hv] at hv'
  cases hv'
  cases ev'
  refine ⟨a, vs', n, j, rfl, rfl, ha', by rw [r'.length]; exact hj, ?_⟩
  refine hn σ _ G2 _ q (s2.wr e1 hv (Same.refl _) (fun b u z nb => by rw [upd_ne nb]; exact z) (fun b u z => ?_) (fun _ _ _ => rfl) ⟨_, upd_same, Reps.set (r1.mono g2) j r'⟩)
  rw [upd_ne (ne_of_none z n2)]
  exact s2.sub b u z
end
/-! ### what is walked, in new pairs -/
section
variable {K : PySem.W.Frag} {τ τ1 : TEnv} {tr : TA}
def pairsP (xs ys : List PV) : List PV := (xs.zip ys).map fun p => .tup [p.1, p.2]
theorem yld_zipL {G1 : Hp} {a b : Addr} {vs us : List V} {xs ys : List PV} (ha : G1 a = some (.lst vs)) (hb : G1 b = some (.lst us)) (r1 : Reps G1 vs xs) (r2 : Reps G1 us ys) : Yld (Itz K a b) G1 (pairsP xs ys) := fun i G H g sub => by
  have hA : SqL K H a vs := SqL.of (sub _ _ (g _ _ ha))
  have hB : SqL K H b us := SqL.of (sub _ _ (g _ _ hb))
  refine ⟨fun x hx => ?_, fun hi => ?_⟩
  · unfold pairsP at hx
    rw [List.getElem?_map] at hx
    cases hz : (xs.zip ys)[i]? with
    | none => rw [hz] at hx; cases hx
    | some p =>
      rw [hz] at hx
      cases hx
      obtain ⟨h1, h2⟩ := List.getElem?_zip_eq_some.mp hz
      obtain ⟨w1, e1, q1⟩ := r1.get h1
      obtain ⟨w2, e2, q2⟩ := r2.get h2
      refine ⟨⟨vs, us, w1, w2, hA, hB, e1, e2⟩, fun v H' hy => ?_⟩
      obtain ⟨T, x1, x2, rfl, nT, rfl, f1, f2⟩ := hy
      have z1 := f1 _ hA
      have z2 := f2 _ hB
      rw [e1] at z1
      rw [e2] at z2
      cases z1
      cases z2
      exact ⟨_, Gr.new sub nT, .tup upd_same (.cons ((q1.mono g).mono (Gr.new sub nT).g) (.cons ((q2.mono g).mono (Gr.new sub nT).g) .nil))⟩
  · refine ⟨vs, us, hA, hB, ?_⟩
    unfold pairsP at hi
    rw [List.length_map, List.length_zip] at hi
    rw [r1.length, r2.length]
    omega
theorem yld_zipT {G1 : Hp} {a b : Addr} {vs us : List V} {xs ys : List PV} (ha : G1 a = some (.tup vs)) (hb : G1 b = some (.tup us)) (r1 : Reps G1 vs xs) (r2 : Reps G1 us ys) : Yld (RZ.ItzT K a b) G1 (pairsP xs ys) := fun i G H g sub => by
  have hA : SqT K H a vs := SqT.of (sub _ _ (g _ _ ha))
  have hB : SqT K H b us := SqT.of (sub _ _ (g _ _ hb))
  refine ⟨fun x hx => ?_, fun hi => ?_⟩
  · unfold pairsP at hx
    rw [List.getElem?_map] at hx
    cases hz : (xs.zip ys)[i]? with
    | none => rw [hz] at hx; cases hx
    | some p =>
      rw [hz] at hx
      cases hx
      obtain ⟨h1, h2⟩ := List.getElem?_zip_eq_some.mp hz
      obtain ⟨w1, e1, q1⟩ := r1.get h1
      obtain ⟨w2, e2, q2⟩ := r2.get h2
      refine ⟨⟨vs, us, w1, w2, hA, hB, e1, e2⟩, fun v H' hy => ?_⟩
      obtain ⟨T, x1, x2, rfl, nT, rfl, f1, f2⟩ := hy
      have z1 := f1 _ hA
      have z2 := f2 _ hB
      rw [e1] at z1
      rw [e2] at z2
      cases z1
      cases z2
      exact ⟨_, Gr.new sub nT, .tup upd_same (.cons ((q1.mono g).mono (Gr.new sub nT).g) (.cons ((q2.mono g).mono (Gr.new sub nT).g) .nil))⟩
  · refine ⟨vs, us, hA, hB, ?_⟩
    unfold pairsP at hi
    rw [List.length_map, List.length_zip] at hi
    rw [r1.length, r2.length]
    omega
theorem it_zipL {xs ys : List PV} (h : EvA tr τ [.lst xs, .lst ys] τ1) : ItR (RZ.iZipA K tr) τ (pairsP xs ys) τ1 := fun G0 H0 bs σ G H s R q => h _ _ _ _ _ _ s _ fun vs G1 H1 s1 e1 r1 => by
  cases r1 with
  | cons a r =>
    cases r with
    | cons b r =>
      cases r
      cases a with
      | lst ha ra =>
        cases b with
        | lst hb rb => exact ⟨_, _, _, _, rfl, .inl ⟨SqL.of (s1.sub _ _ ha), SqL.of (s1.sub _ _ hb), q _ G1 H1 s1 e1 (yld_zipL ha hb ra rb)⟩⟩
theorem it_zipT {xs ys : List PV} (h : EvA tr τ [.tup xs, .tup ys] τ1) : ItR (RZ.iZipA K tr) τ (pairsP xs ys) τ1 := fun G0 H0 bs σ G H s R q => h _ _ _ _ _ _ s _ fun vs G1 H1 s1 e1 r1 => by
  cases r1 with
  | cons a r =>
    cases r with
    | cons b r =>
      cases r
      cases a with
      | tup ha ra =>
        cases b with
        | tup hb rb => exact ⟨_, _, _, _, rfl, .inr ⟨SqT.of (s1.sub _ _ ha), SqT.of (s1.sub _ _ hb), q _ G1 H1 s1 e1 (yld_zipT ha hb ra rb)⟩⟩
end
/-! ### == of data -/
mutual
def pd : PV → PyData
  | .non => .none
  | .bl b => .bool b
  | .int i => .int i
  | .str s => .str s
  | .ty _ => .none
  | .tup l => .tuple (pds l)
  | .lst l => .list (pds l)
def pds : List PV → List PyData
  | [] => []
  | x :: l => pd x :: pds l
end
mutual
/-- plain data -/
def isD : PV → Bool
  | .ty _ => false
  | .tup l => isDs l
  | .lst l => isDs l
  | _ => true
def isDs : List PV → Bool
  | [] => true
  | x :: l => isD x && isDs l
end
mutual
theorem dp_of {K : PySem.W.Frag} {G H : Hp} (e : Same G H) : ∀ {v : V} {x : PV}, Rep G v x → isD x = true → Dp K H v (pd x)
  | _, _, .non, _ => .non
  | _, _, .bl b, _ => .bl b
  | _, _, .int i, _ => .int i
  | _, _, .str s, _ => .str s
  | _, _, .ty n, h => by cases h
  | _, _, .tup h r, d => .tup (SqT.of (e _ _ h)) (dps_of e r d)
  | _, _, .lst h r, d => .lst (SqL.of (e _ _ h)) (dps_of e r d)
theorem dps_of {K : PySem.W.Frag} {G H : Hp} (e : Same G H) : ∀ {vs : List V} {xs : List PV}, Reps G vs xs → isDs xs = true → DpAll K H vs (pds xs)
  | _, _, .nil, _ => .nil
  | _, _, .cons r t, h => .cons (dp_of e r (Bool.and_eq_true_iff.mp h).1) (dps_of e t (Bool.and_eq_true_iff.mp h).2)
end
section
variable {K : PySem.W.Frag} {x y : PV}
theorem r_eqD (h1 : isD x = true) (h2 : isD y = true) (s1 : SeqAt.shaped (pd x) = true) (s2 : SeqAt.shaped (pd y) = true) : RvR (rEqD K) x y (.bl (PyData.eqv (pd x) (pd y))) := fun G H e v u r1 r2 =>
  Rv.ret e (.bl _) fun Q q => ⟨_, _, dp_of e r1 h1, dp_of e r2 h2, s1, s2, q⟩
theorem r_neD (h1 : isD x = true) (h2 : isD y = true) (s1 : SeqAt.shaped (pd x) = true) (s2 : SeqAt.shaped (pd y) = true) : RvR (rNeD K) x y (.bl (!PyData.eqv (pd x) (pd y))) := fun G H e v u r1 r2 =>
  Rv.ret e (.bl _) fun Q q => ⟨_, _, dp_of e r1 h1, dp_of e r2 h2, s1, s2, q⟩
end
end TLy
end
section
set_option maxRecDepth 100000
set_option maxHeartbeats 2000000
namespace TLy
open PySem PySem.Spec PyProof.Rows L2
/-! ### defs -/
def startT (n : Nat) (xs : List PV) : TEnv := xs.map (fun x => some (.val x)) ++ List.replicate (n - xs.length) none
def startC (n : Nat) (c : Cell) (xs : List PV) : TEnv := some (.mu false c) :: startT (n - 1) xs
theorem st_start0 {N : List Str} {vs : List V} {xs : List PV} {G H : Hp} (sub : Same G H) (r : Reps G vs xs) (hl : xs.length ≤ N.length) : StT G H [] G H (start N vs) (startT N.length xs) := by
  have el := r.length
  refine ⟨Same.refl _, fun _ _ h _ => h, fun _ o h => ⟨o, h⟩, sub, fun _ _ _ => rfl, fun b z => absurd z (by simp), ?_, fun i s e => ?_, fun i j o c o' c' v h1 => ?_⟩
  · unfold L2.start startT
    rw [List.length_append, List.length_append, List.length_map, List.length_map, List.length_replicate, List.length_replicate, el]
  · unfold startT at e
    by_cases hi : i < xs.length
    · rw [List.getElem?_append_left (by rw [List.length_map]; exact hi), List.getElem?_map, List.getElem?_eq_getElem hi] at e
      cases e
      obtain ⟨v, h1, h2⟩ := r.get (List.getElem?_eq_getElem hi)
      refine ⟨v, ?_, h2⟩
      unfold L2.start
      rw [List.getElem?_append_left (by rw [List.length_map, el]; exact hi), List.getElem?_map, h1]
      rfl
    · rw [List.getElem?_append_right (by rw [List.length_map]; omega), List.getElem?_replicate] at e
      split at e <;> cases e
  · unfold startT at h1
    by_cases hi : i < xs.length
    · rw [List.getElem?_append_left (by rw [List.length_map]; exact hi), List.getElem?_map, List.getElem?_eq_getElem hi] at h1
      cases h1
    · rw [List.getElem?_append_right (by rw [List.length_map]; omega), List.getElem?_replicate] at h1
      split at h1 <;> cases h1
theorem startT_mu {n : Nat} {xs : List PV} {i : Nat} {o : Bool} {c : Cell} : (startT n xs)[i]? ≠ some (some (.mu o c)) := fun h1 => by
  unfold startT at h1
  by_cases hi : i < xs.length
  · rw [List.getElem?_append_left (by rw [List.length_map]; exact hi), List.getElem?_map, List.getElem?_eq_getElem hi] at h1
    cases h1
  · rw [List.getElem?_append_right (by rw [List.length_map]; omega), List.getElem?_replicate] at h1
    split at h1 <;> cases h1
theorem st_startC {N : List Str} {a : Addr} {c : Cell} {vs : List V} {xs : List PV} {G H : Hp} (sub : Same G H) (ga : G a = none) (k : CelAt G H a c) (r : Reps G vs xs) (hl : xs.length + 1 ≤ N.length) : StT G H [a] G H (start N (.ref a :: vs)) (startC N.length c xs) := by
  have el := r.length
  have s0 : StT G H [] G H (start N.tail vs) (startT N.tail.length xs) := st_start0 sub r (by rw [List.length_tail]; omega)
  have eS : start N (.ref a :: vs) = some (.ref a) :: start N.tail vs := by
    unfold L2.start
    rw [List.map_cons, List.cons_append, List.length_cons, List.length_tail]
    congr 3
    omega
  rw [eS]
  have e1 : startC N.length c xs = some (.mu false c) :: startT N.tail.length xs := by
    unfold startC
    rw [List.length_tail]
  rw [e1]
  refine ⟨Same.refl _, fun _ _ h _ => h, fun _ o h => ⟨o, h⟩, sub, fun _ _ _ => rfl, fun b z => ?_, by rw [List.length_cons, List.length_cons, s0.len], fun i s e => ?_, fun i j o c o' c' v h1 h2 h3 h4 => ?_⟩
  · have : b = a := by simpa using z
    subst this
    exact ⟨k.ex, ga⟩
  · cases i with
    | zero =>
      rw [List.getElem?_cons_zero] at e
      cases e
      exact ⟨_, rfl, a, rfl, ga, k, (fun z => Bool.noConfusion z), fun _ => by simp⟩
    | succ i =>
      rw [List.getElem?_cons_succ] at e
      obtain ⟨v, q1, q2⟩ := s0.env i s e
      refine ⟨v, by rw [List.getElem?_cons_succ]; exact q1, ?_⟩
      cases s with
      | val x => exact q2
      | mu o c => exact absurd e startT_mu
  · cases i with
    | succ i => rw [List.getElem?_cons_succ] at h1; exact absurd h1 startT_mu
    | zero =>
      cases j with
      | succ j => rw [List.getElem?_cons_succ] at h2; exact absurd h2 startT_mu
      | zero => rfl
/-- promises by what is told -/
def spOf (R : List PV → PV → Prop) : Sp := fun vs H Q _ => ∃ G xs y, Same G H ∧ Reps G vs xs ∧ R xs y ∧ RetP G H y Q
/-- .. that may raise -/
def spOfE (R : List PV → Sum PV Er → Prop) : Sp := fun vs H Q E => ∃ G xs r, Same G H ∧ Reps G vs xs ∧ R xs r ∧ match r with
  | .inl y => RetP G H y Q
  | .inr e => ErrP G H [] e E
/-- .. that changes its first argument -/
def spOfC (R : Cell → List PV → PV → Cell → Prop) : Sp := fun vs H Q _ => ∃ G a ws c xs y c', vs = .ref a :: ws ∧ Same G H ∧ G a = none ∧ CelAt G H a c ∧ Reps G ws xs ∧ R c xs y c' ∧ RetC G H a c' y Q
theorem spP {R : List PV → PV → Prop} {E : XK} {xs : List PV} {y : PV} (h : R xs y) : SpP (spOf R) E xs y := fun G H e vs r Q q => ⟨G, xs, y, e, r, h, q⟩
theorem spEv {R : List PV → Sum PV Er → Prop} {E : XK} {xs : List PV} {y : PV} (h : R xs (.inl y)) : SpP (spOfE R) E xs y := fun G H e vs r Q q => ⟨G, xs, _, e, r, h, q⟩
theorem spEe {R : List PV → Sum PV Er → Prop} {xs : List PV} {x : Er} (h : R xs (.inr x)) : SpE (spOfE R) xs x := fun G H e vs r Q E q => ⟨G, xs, _, e, r, h, q⟩
theorem spC {R : Cell → List PV → PV → Cell → Prop} {E : XK} {c c' : Cell} {xs : List PV} {y : PV} (h : R c xs y c') : SpC (spOfC R) E c xs y c' := fun G H e a n k vs r Q q => ⟨G, a, vs, c, xs, y, c', rfl, e, n, k, r, h, q⟩
section
variable {P : Program} {w : World} {K : PySem.W.Frag} {mg : Str → Option Value} {base : Heap} {x qual : Str} {st : Stmt} {f : Addr} {fd : FuncData} {N ps : List Str} {k : Nat}
theorem ok_pure {R : List PV → PV → Prop} (F : Fun K x qual st f fd) (S : FnScope N ps (defScope st)) (hl : ∀ xs y, R xs y → xs.length = ps.length) (hN : ps.length ≤ N.length)
    (body : ∀ (cdv : Value) (A : Around) (outer : List Env) (s : Shared) (H : Hp) (E : XK), Room k (A.deeper (envOfC qual (defScope st) s.heap.objs.size f cdv)) → ∀ xs y, R xs y →
      ∃ t, PSs (cxOf CX0 P w K mg base N qual (defScope st) f cdv A outer s H E).nox (defBody st) t ∧ Exec E t (startT N.length xs) { nx := fun _ => y = .non, rt := fun z _ => z = y }) : FnOk P w K mg base CX0 (k + 1) f fd ps (spOf R) := by
  refine F.ok S (fun vs H Q E h => ?_) (fun cdv A outer s H vs Q E hr h => ?_)
  · obtain ⟨G, xs, y, _, r, h, _⟩ := h
    rw [r.length]
    exact hl xs y h
  · obtain ⟨G, xs, y, sub, r, h, q⟩ := h
    obtain ⟨t, ht, he⟩ := body cdv A outer s H E hr xs y h
    refine ⟨t, ht, he G H [] _ G H _ (st_start0 sub r (by rw [hl xs y h]; exact hN)) (fun e z => z.elim) (fun σ' τ' G' H' z s' => ?_) (fun v x σ' τ' G' H' z s' rx => ?_) (fun _ _ _ _ z => z.elim) (fun _ _ _ _ z => z.elim)⟩
    · exact q .non G' H' ⟨s'.g, fun b o e => s'.h b o e (by simp), s'.sub, s'.old⟩ (by rw [show y = .non from z]; exact .non)
    · exact q v G' H' ⟨s'.g, fun b o e => s'.h b o e (by simp), s'.sub, s'.old⟩ (by rw [← show x = y from z]; exact rx)
theorem ok_cell {R : Cell → List PV → PV → Cell → Prop} (F : Fun K x qual st f fd) (S : FnScope N ps (defScope st)) (hl : ∀ c xs y c', R c xs y c' → xs.length + 1 = ps.length) (hN : ps.length ≤ N.length)
    (body : ∀ (cdv : Value) (A : Around) (outer : List Env) (s : Shared) (H : Hp) (E : XK), Room k (A.deeper (envOfC qual (defScope st) s.heap.objs.size f cdv)) → ∀ c xs y c', R c xs y c' →
      ∃ t, PSs (cxOf CX0 P w K mg base N qual (defScope st) f cdv A outer s H E).nox (defBody st) t ∧ Exec E t (startC N.length c xs) { nx := fun τ => y = .non ∧ τ[0]? = some (some (.mu false c')), rt := fun z τ => z = y ∧ ∃ i : Nat, τ[i]? = some (some (Sl.mu false c')) }) : FnOk P w K mg base CX0 (k + 1) f fd ps (spOfC R) := by
  refine F.ok S (fun vs H Q E h => ?_) (fun cdv A outer s H vs Q E hr h => ?_)
  · obtain ⟨G, a, ws, c, xs, y, c', rfl, _, _, _, r, h, _⟩ := h
    rw [List.length_cons, r.length]
    exact hl _ _ _ _ h
  · obtain ⟨G, a, ws, c, xs, y, c', rfl, sub, ga, kc, r, h, q⟩ := h
    obtain ⟨t, ht, he⟩ := body cdv A outer s H E hr c xs y c' h
    have fin : ∀ {i : Nat} {v : V} {x : PV} {σ' : L2.St} {τ' : TEnv} {G' H' : Hp}, StT G H [a] G' H' σ' τ' → τ'[i]? = some (some (.mu false c')) → Rep G' v y → Q v H' := fun {i v x σ' τ' G' H'} s' e rx => by
      obtain ⟨u, h1, a', ea, n, k', _, p⟩ := s'.env i _ e
      have : a' = a := by simpa using p rfl
      subst this
      exact q v G' H' s'.g (fun b o z nb => s'.h b o z (by simpa using nb)) s'.sub s'.old k' rx
    refine ⟨t, ht, he G H [a] _ G H _ (st_startC sub ga kc r (by rw [hl _ _ _ _ h]; exact hN)) (fun e z => z.elim) (fun σ' τ' G' H' z s' => ?_) (fun v x σ' τ' G' H' z s' rx => ?_) (fun _ _ _ _ z => z.elim) (fun _ _ _ _ z => z.elim)⟩
    · exact fin (x := y) s' z.2 (by rw [show y = .non from z.1]; exact .non)
    · obtain ⟨z1, i, z2⟩ := z
      exact fin (x := y) s' z2 (by rw [← show x = y from z1]; exact rx)
theorem ok_err {R : List PV → Sum PV Er → Prop} (F : Fun K x qual st f fd) (S : FnScope N ps (defScope st)) (hl : ∀ xs y, R xs y → xs.length = ps.length) (hN : ps.length ≤ N.length)
    (body : ∀ (cdv : Value) (A : Around) (outer : List Env) (s : Shared) (H : Hp) (E : XK), Room k (A.deeper (envOfC qual (defScope st) s.heap.objs.size f cdv)) → ∀ xs y, R xs y →
      ∃ t, PSs (cxOf (L2.CX P w) P w K mg base N qual (defScope st) f cdv A outer s H E) (defBody st) t ∧ Exec E t (startT N.length xs) { nx := fun _ => y = .inl .non, rt := fun z _ => y = .inl z, er := fun e => y = .inr e }) : FnOk P w K mg base (L2.CX P w) (k + 1) f fd ps (spOfE R) := by
  refine F.okX S (fun vs H Q E h => ?_) (fun cdv A outer s H vs Q E hr h => ?_)
  · obtain ⟨G, xs, y, _, r, h, _⟩ := h
    rw [r.length]
    exact hl xs y h
  · obtain ⟨G, xs, y, sub, r, h, q⟩ := h
    obtain ⟨t, ht, he⟩ := body cdv A outer s H E hr xs y h
    refine ⟨t, ht, he G H [] _ G H _ (st_start0 sub r (by rw [hl xs y h]; exact hN)) (fun e z => ?_) (fun σ' τ' G' H' z s' => ?_) (fun v x σ' τ' G' H' z s' rx => ?_) (fun _ _ _ _ z => z.elim) (fun _ _ _ _ z => z.elim)⟩
    · have z : y = .inr e := z
      subst z
      exact q
    · have z : y = .inl .non := z
      subst z
      exact q .non G' H' ⟨s'.g, fun b o e => s'.h b o e (by simp), s'.sub, s'.old⟩ .non
    · have z : y = .inl x := z
      subst z
      exact q v G' H' ⟨s'.g, fun b o e => s'.h b o e (by simp), s'.sub, s'.old⟩ rx
end
/-! ### raise -/
section
variable {E : XK} {τ : TEnv} {P : Post} {C : Addr}
theorem ex_raise (q : P.er ⟨C, none⟩) : Exec E (fun _ σ H => (fun (_ : L2.St) (H : Hp) (Q : XK) => Q (.ref C) none H) σ H fun cls d H' => (fun cls d (_ : L2.St) H => E cls d H) cls d σ H') τ P := fun G0 H0 bs σ G H D s he hn hr hb hc =>
  he _ q (.ref C) none G H s.g s.sub s.h s.hn s.old ⟨rfl, rfl⟩
end
end TLy
end
section
set_option maxRecDepth 100000
set_option maxHeartbeats 2000000
/-! texts as lists of their signs -/
namespace TLy
open PySem PySem.Spec PyProof.Rows L2
abbrev S (l : List Nat) : Str := ⟨l.toArray⟩
theorem S_inj {l m : List Nat} : S l = S m ↔ l = m := by
  constructor
  · intro h
    injection h with h
    simpa using h
  · intro h
    rw [h]
theorem S_len (l : List Nat) : (S l).length = l.length := by simp [S, Str.length]
theorem S_list (l : List Nat) : (S l).cps.toList = l := rfl
theorem S_of (z : Str) : z = S z.cps.toList := by simp [S]
theorem S_app (l m : List Nat) : S l ++ S m = S (l ++ m) := TL.ext_tl (by rw [TL.tl_append])
theorem lt1 (b c : Nat) : decide ([b] < [c]) = decide (b < c) := by
  rw [Bool.eq_iff_iff]
  simp [List.cons_lt_cons_iff]
theorem cutS_nat (t : List Nat) (i j : Nat) : cutS (S t) (some (i : Int)) (some (j : Int)) = S ((t.drop i).take (j - i)) := by
  unfold cutS
  rw [S_len, HT.sIx_nat, HT.sIx_nat, S_list]
  congr 2
  by_cases hi : i ≤ t.length
  · rw [Nat.min_eq_left hi]
    by_cases hj : j ≤ t.length
    · rw [Nat.min_eq_left hj]
    · rw [Nat.min_eq_right (by omega), List.take_of_length_le (by rw [List.length_drop]; exact Nat.le_refl _), List.take_of_length_le (by rw [List.length_drop]; omega)]
  · rw [List.drop_eq_nil_of_le (by omega), List.drop_eq_nil_of_le (by omega), List.take_nil, List.take_nil]
/-- no sign, or the one at a place -/
def sg (t : List Nat) (i : Nat) : List Nat := (t[i]?).toList
theorem drop_take1 (t : List Nat) (i : Nat) : (t.drop i).take 1 = sg t i := by
  unfold sg
  cases h : t[i]? with
  | none =>
    rw [List.drop_eq_nil_of_le (List.getElem?_eq_none_iff.mp h)]
    rfl
  | some c =>
    obtain ⟨hl, e⟩ := List.getElem?_eq_some_iff.mp h
    rw [List.drop_eq_getElem_cons hl, e]
    rfl
theorem cutS_sg (t : List Nat) (i : Nat) : cutS (S t) (some (i : Int)) (some ((i : Int) + 1)) = S (sg t i) := by
  have e : ((i : Int) + 1) = ((i + 1 : Nat) : Int) := by omega
  rw [e, cutS_nat, Nat.add_sub_cancel_left, drop_take1]
theorem sg_eq {t : List Nat} {i c : Nat} : sg t i = [c] ↔ t[i]? = some c := by
  unfold sg
  cases t[i]? <;> simp
theorem sg_nil {t : List Nat} {i : Nat} : sg t i = [] ↔ t.length ≤ i := by
  unfold sg
  cases h : t[i]? with
  | none => simpa using h
  | some c =>
    have := (List.getElem?_eq_some_iff.mp h).1
    simp
    exact this
theorem q_S {l m : List Nat} {z : Str} (hz : z = S m) : decide (S l = z) = decide (l = m) := by
  rw [hz, Bool.eq_iff_iff, decide_eq_true_eq, decide_eq_true_eq]
  exact S_inj
theorem q_sg {t : List Nat} {i : Nat} (c : Nat) {z : Str} (hz : z = S [c]) : decide (S (sg t i) = z) = decide (t[i]? = some c) := by
  rw [q_S hz, Bool.eq_iff_iff, decide_eq_true_eq, decide_eq_true_eq]
  exact sg_eq
theorem q_sg0 {t : List Nat} {i : Nat} {z : Str} (hz : z = S []) : decide (S (sg t i) = z) = decide (t.length ≤ i) := by
  rw [q_S hz, Bool.eq_iff_iff, decide_eq_true_eq, decide_eq_true_eq]
  exact sg_nil
theorem at_get {α : Type} (l : List α) (i : Nat) {x : α} (h : l[i]? = some x) : atI l (i : Int) = some x := atI_nat h
theorem len_sz {t : List Nat} (h : t.length ≤ 1000000) : (S t).length ≤ sizeLine := by
  rw [S_len]
  exact small h
/-! ### numbers -/
def dig (c : Nat) : Bool := decide (48 ≤ c) && decide (c ≤ 57)
theorem dig_iff {c : Nat} : dig c = true ↔ 48 ≤ c ∧ c ≤ 57 := by unfold dig; simp
/-- the signs of an int -/
def intL (i : Int) : List Nat := if i < 0 then 45 :: TL.numL i.natAbs else TL.numL i.natAbs
theorem str_int (i : Int) : Str.ofString (toString i) = S (intL i) := by
  refine TL.ext_tl ?_
  show _ = intL i
  unfold intL
  by_cases h : i < 0
  · rw [if_pos h]
    obtain ⟨n, rfl⟩ : ∃ n : Nat, i = Int.negSucc n := by
      cases i with
      | ofNat n => exact absurd h (by simp)
      | negSucc n => exact ⟨n, rfl⟩
    rw [TL.tl_ofString]
    have e : (toString (Int.negSucc n)) = "-" ++ toString (n + 1) := rfl
    have e2 := TL.tl_num (n + 1)
    rw [TL.tl_ofString] at e2
    rw [e, String.toList_append, List.map_append]
    show 45 :: List.map Char.toNat (toString (n + 1)).toList = 45 :: TL.numL (Int.negSucc n).natAbs
    rw [show (Int.negSucc n).natAbs = n + 1 from rfl, ← e2]
    rfl
  · rw [if_neg h]
    obtain ⟨n, rfl⟩ := Int.eq_ofNat_of_zero_le (show 0 ≤ i by omega)
    exact TL.tl_num n
/-- if c: (something that does not go on); then the rest -/
theorem ex_guard {E : XK} {τ τ1 : TEnv} {t u : TS} {P : Post} {tt : TT} {b : Bool} (h : EvB tt τ b τ1) (h1 : b = true → ∀ M, Exec E t τ1 { P with nx := M }) (h2 : b = false → Exec E u τ1 P) : Exec E (tSeq (tIfS tt t tNext) u) τ P :=
  ex_seq (fun τ' => τ' = τ1 ∧ b = false) (ex_if h (fun z => h1 z _) (fun z => ex_next ⟨rfl, z⟩)) (fun τ' m => m.1 ▸ h2 m.2)
theorem ex_gT {E : XK} {τ τ1 : TEnv} {t u : TS} {P : Post} {tt : TT} (h : EvB tt τ true τ1) (h1 : ∀ M, Exec E t τ1 { P with nx := M }) : Exec E (tSeq (tIfS tt t tNext) u) τ P := ex_guard h (fun _ => h1) (fun z => Bool.noConfusion z)
theorem ex_gF {E : XK} {τ τ1 : TEnv} {t u : TS} {P : Post} {tt : TT} (h : EvB tt τ false τ1) (h2 : Exec E u τ1 P) : Exec E (tSeq (tIfS tt t tNext) u) τ P := ex_guard h (fun z => Bool.noConfusion z) (fun _ => h2)
/-- a, b = [..], constant -/
theorem ex_par_own {E : XK} {τ : TEnv} {P : Post} {i j : Nat} {te : TE} {xs : List PV} {v : V} {y : PV} (h1 : EvN te τ xs τ) (hv : ∀ G, Rep G v y) (q : P.nx ((τ.set i (some (.mu true (.lst xs)))).set j (some (.val y)))) :
    Exec E (tPar i j (tCons te (tCons (tC v) tNil))) τ P := fun G0 H0 bs σ G H D s he hn hr hb hc =>
  h1 _ _ _ _ _ _ s _ fun p vs G1 H1 s1 e1 h0 gp hp r nw => ⟨_, _, rfl, hn _ _ G1 H1 q ((s1.own (c := .lst xs) i gp h0 ⟨vs, hp, r⟩ nw).set j (hv G1))⟩
theorem eb_yes {τ : TEnv} : EvB tYes τ true τ := fun _ _ _ _ G H s Q q => q G H s (Same.refl _)
theorem wiped_set {T : TEnv} {i : Nat} {s : Option Sl} : (wipeT T [i]).set i s = T.set i s := by
  show (T.set i none).set i s = _
  rw [List.set_set]
/-- a comprehension over things of a kind, one name -/
theorem en_lc1T {α : Type} {wi : TI} {i : Nat} {tt : TT} {te : TE} {τ τ1 : TEnv} (l : List α) (g0 f : α → PV) (p : α → Bool) (hi : ItR wi τ (l.map g0) τ1) (hv : ∀ o c, τ1[i]? ≠ some (some (.mu o c))) (hz : l.length ≤ 100000)
    (ht : ∀ a, a ∈ l → EvB tt ((lentT τ1).set i (some (.val (g0 a)))) (p a) ((lentT τ1).set i (some (.val (g0 a))))) (hs : ∀ a, a ∈ l → p a = true → EvR te ((lentT τ1).set i (some (.val (g0 a)))) (f a) ((lentT τ1).set i (some (.val (g0 a))))) :
    EvN (tLc wi (gName i) tt te [i]) τ ((l.filter p).map f) τ1 := by
  have key := en_lc (te := te) (tt := tt) (g := gName i) (vs := [i]) (fun _ => τ1) (fun k => (l[k]?).bind fun a => if p a = true then some (f a) else none) hi rfl (fun _ _ => Shp.refl _) (fun k hk => by
      have : k = i := by simpa using hk
      subst this
      exact hv) (by rw [List.length_map]; exact hz) (fun k x hx => by
    rw [List.getElem?_map] at hx
    cases ha : l[k]? with
    | none => rw [ha] at hx; cases hx
    | some a =>
      rw [ha] at hx
      cases hx
      have hm := List.mem_of_getElem? ha
      refine ⟨(lentT τ1).set i (some (.val (g0 a))), (lentT τ1).set i (some (.val (g0 a))), ?_, ?_, fun k' hk' => ?_⟩
      · have := tw_name (τ := wipeT (lentT τ1) [i]) (x := g0 a) (i := i) (vs := [i]) (by simp)
        rw [wiped_set] at this
        exact this
      · show (match (if p a = true then some (f a) else none) with | none => _ | some y => _)
        by_cases hp : p a = true
        · rw [if_pos hp]
          exact ⟨_, by have := ht a hm; rw [hp] at this; exact this, hs a hm hp⟩
        · rw [if_neg hp]
          have := ht a hm
          rw [Bool.not_eq_true] at hp
          rw [hp] at this
          exact this
      · rw [List.getElem?_set_ne]
        intro z
        exact hk' (by simp [z]))
  rw [List.length_map] at key
  have e : ∀ (l : List α), (List.range l.length).filterMap (fun k => (l[k]?).bind fun a => if p a = true then some (f a) else none) = (l.filter p).map f := fun l => by
    induction l with
    | nil => rfl
    | cons a l ih =>
      rw [List.length_cons, List.range_succ_eq_map, List.filterMap_cons, List.filterMap_map]
      have : (fun k => ((a :: l)[k]?).bind fun a => if p a = true then some (f a) else none) ∘ Nat.succ = fun k => (l[k]?).bind fun a => if p a = true then some (f a) else none := by
        funext i
        simp
      rw [this, ih]
      by_cases hp : p a = true
      · simp [hp]
      · simp [hp]
  rw [e l] at key
  exact key
theorem en_lc1 {α : Type} {wi : TI} {i : Nat} {te : TE} {τ τ1 : TEnv} (l : List α) (g0 f : α → PV) (hi : ItR wi τ (l.map g0) τ1) (hv : ∀ o c, τ1[i]? ≠ some (some (.mu o c))) (hz : l.length ≤ 100000)
    (hs : ∀ a, a ∈ l → EvR te ((lentT τ1).set i (some (.val (g0 a)))) (f a) ((lentT τ1).set i (some (.val (g0 a))))) :
    EvN (tLc wi (gName i) tYes te [i]) τ (l.map f) τ1 := by
  have := en_lc1T (tt := tYes) l g0 f (fun _ => true) hi hv hz (fun a _ => eb_yes) (fun a h _ => hs a h)
  rw [show l.filter (fun _ => true) = l from List.filter_eq_self.mpr fun _ _ => rfl] at this
  exact this
end TLy
end
section
set_option maxRecDepth 100000
set_option maxHeartbeats 2000000
/-! what the things' texts are: plain Lean -/
namespace K10
open PySem TLy TL NumText
def dend (t : List Nat) (i : Nat) : Nat := i + ((t.drop i).takeWhile dig).length
theorem dend_step {t : List Nat} {i c : Nat} (h : t[i]? = some c) (hc : dig c = true) : dend t i = dend t (i + 1) := by
  obtain ⟨hl, e⟩ := List.getElem?_eq_some_iff.mp h
  unfold dend
  rw [List.drop_eq_getElem_cons hl, e, List.takeWhile_cons, if_pos hc, List.length_cons]
  omega
theorem dend_stop {t : List Nat} {i c : Nat} (h : t[i]? = some c) (hc : dig c = false) : dend t i = i := by
  obtain ⟨hl, e⟩ := List.getElem?_eq_some_iff.mp h
  unfold dend
  rw [List.drop_eq_getElem_cons hl, e, List.takeWhile_cons, if_neg (by rw [hc]; exact Bool.false_ne_true)]
  rfl
theorem dend_end {t : List Nat} {i : Nat} (h : t.length ≤ i) : dend t i = i := by
  unfold dend
  rw [List.drop_eq_nil_of_le h]
  rfl
theorem dend_ge (t : List Nat) (i : Nat) : i ≤ dend t i := Nat.le_add_right _ _
theorem take_tw (l : List Nat) (p : Nat → Bool) : l.take (l.takeWhile p).length = l.takeWhile p := by
  induction l with
  | nil => rfl
  | cons a l ih =>
    rw [List.takeWhile_cons]
    split
    · rw [List.length_cons, List.take_succ_cons, ih]
    · rfl
theorem tw_all (l : List Nat) (p : Nat → Bool) : ∀ c ∈ l.takeWhile p, p c = true := fun c hc => by
  induction l with
  | nil => cases hc
  | cons a l ih =>
    rw [List.takeWhile_cons] at hc
    split at hc
    · rename_i h
      rcases List.mem_cons.mp hc with rfl | hc
      · exact h
      · exact ih hc
    · cases hc
theorem dend_slice (t : List Nat) (i : Nat) : (t.drop i).take (dend t i - i) = (t.drop i).takeWhile dig := by
  unfold dend
  rw [Nat.add_sub_cancel_left, take_tw]
/-- number_at -/
def numAt (t : List Nat) (i : Nat) : Option (Int × Nat) :=
  let b := if t[i]? = some 45 then i + 1 else i
  let ds := (t.drop b).takeWhile dig
  if ds.length = 0 ∨ 200 < ds.length then none
  else some (if t[i]? = some 45 then -((digitsVal ds : Nat) : Int) else ((digitsVal ds : Nat) : Int), b + ds.length)
def strAt (t : List Nat) (i : Nat) : Option (List Nat × Nat) := match numAt t i with
  | none => none
  | some (m, j) => if t[j]? = some 58 ∧ 0 ≤ m ∧ m ≤ 2000 ∧ (j : Int) + 1 + m ≤ t.length then some ((t.drop (j + 1)).take m.toNat, j + 1 + m.toNat) else none
def rLoop (rec : Nat → Option (PV × Nat)) (t : List Nat) : Nat → Nat → List PV → Option (PV × Nat)
  | 0, _, _ => none
  | n + 1, i, acc => match rec i with
    | none => none
    | some (x, j) => if t[j]? = some 44 then rLoop rec t n (j + 1) (acc ++ [x]) else if t[j]? = some 62 then some (.tup (acc ++ [x]), j + 1) else none
def tNode (t : List Nat) (tup : Nat → Option (PV × Nat)) (i : Nat) : Option (PV × Nat) :=
  if t[i]? = some 63 then some (.non, i + 1)
  else if t[i]? = some 61 then (strAt t (i + 1)).map fun p => (.str (S p.1), p.2)
  else if t[i]? = some 60 then tup i
  else (numAt t i).map fun p => (.int p.1, p.2)
def tAt (t : List Nat) : Nat → Nat → Option (PV × Nat)
  | 0 => tNode t fun _ => none
  | d + 1 => tNode t fun i => if t[i + 1]? = some 62 then some (.tup [], i + 2) else rLoop (tAt t d) t (t.length + 1) (i + 1) []
/-- the law's reading -/
def lawDig (t : List Nat) (i : Nat) : List Nat :=
  let ds := (t.drop i).takeWhile dig
  if ds.length = 1 ∨ t[i]? ≠ some 48 then ds else []
def okc (c : Nat) : Bool := c == 10 || (decide (32 ≤ c) && decide (c ≤ 126))
def rStr (t : List Nat) (i : Nat) : Option (List Nat × Nat) :=
  let ds := lawDig t (i + 1)
  let b := i + 2 + ds.length
  let n := digitsVal ds
  if ds = [] ∨ 4 < ds.length ∨ t[b - 1]? ≠ some 58 then none
  else if ((t.drop b).take n).length = n ∧ n < 2001 ∧ ((t.drop b).take n).all okc = true then some ((t.drop b).take n, b + n) else none
def rNum (t : List Nat) (i : Nat) : Option (Int × Nat) :=
  let b := if t[i]? = some 45 then i + 1 else i
  let ds := lawDig t b
  if ds = [] ∨ 200 < ds.length ∨ (t[i]? = some 45 ∧ ds = [48]) then none
  else some (if t[i]? = some 45 then -((digitsVal ds : Nat) : Int) else ((digitsVal ds : Nat) : Int), b + ds.length)
def rNode (t : List Nat) (tup : Nat → Option (PV × Nat)) (i : Nat) : Option (PV × Nat) :=
  if t[i]? = some 63 then some (.non, i + 1)
  else if t[i]? = some 61 then (rStr t i).map fun p => (.str (S p.1), p.2)
  else if t[i]? = some 60 then tup i
  else (rNum t i).map fun p => (.int p.1, p.2)
def rItems (rec : Nat → Option (PV × Nat)) (t : List Nat) (i : Nat) : Option (PV × Nat) :=
  if t[i]? = some 62 then some (.tup [], i + 1) else rLoop rec t t.length i []
def rAt (t : List Nat) : Nat → Nat → Option (PV × Nat)
  | 0 => rNode t fun _ => none
  | d + 1 => rNode t fun i => rItems (rAt t d) t (i + 1)
/-! things -/
def MOSTv : Int := 10 ^ 200
def signOk (c : Nat) : Bool := c == 10 || (decide (32 ≤ c) && decide (c ≤ 126) && c != 37)
mutual
def isTh : Nat → PV → Bool
  | _, .non => true
  | _, .int i => decide (-MOSTv < i) && decide (i < MOSTv)
  | _, .str s => decide (s.length ≤ 2000) && s.cps.toList.all signOk
  | 0, .tup _ => false
  | d + 1, .tup l => isThs d l
  | _, _ => false
def isThs : Nat → List PV → Bool
  | _, [] => true
  | d, x :: l => isTh d x && isThs d l
end
def joinC : List (List Nat) → List Nat
  | [] => []
  | [x] => x
  | x :: y :: r => x ++ 44 :: joinC (y :: r)
mutual
def txt : PV → List Nat
  | .non => [63]
  | .int i => intL i
  | .str s => 61 :: (numL s.length ++ 58 :: s.cps.toList)
  | .tup l => 60 :: (joinC (txts l) ++ [62])
  | _ => []
def txts : List PV → List (List Nat)
  | [] => []
  | x :: l => txt x :: txts l
end
theorem isThs_mem {d : Nat} : ∀ {l : List PV}, isThs d l = true → ∀ x ∈ l, isTh d x = true
  | [], _, _, h => by cases h
  | a :: l, e, x, h => by
    have e : (isTh d a && isThs d l) = true := e
    rw [Bool.and_eq_true] at e
    rcases List.mem_cons.mp h with rfl | h
    · exact e.1
    · exact isThs_mem e.2 x h
theorem isThs_of {d : Nat} : ∀ {l : List PV}, (∀ x ∈ l, isTh d x = true) → isThs d l = true
  | [], _ => rfl
  | a :: l, h => by
    show (isTh d a && isThs d l) = true
    rw [h a List.mem_cons_self, isThs_of fun x hx => h x (List.mem_cons_of_mem _ hx)]
    rfl
theorem txts_map : ∀ l : List PV, txts l = l.map txt
  | [] => rfl
  | x :: l => by
    show txt x :: txts l = _
    rw [txts_map l]
    rfl
/-! digits -/
theorem numL_head : ∀ (n c : Nat) (r : List Nat), numL n = c :: r → n ≠ 0 → c ≠ 48 := by
  intro n
  induction n using Nat.strongRecOn with
  | _ n ih =>
    intro c r h h0
    by_cases hn : n < 10
    · rw [numL_lt hn] at h
      injection h with h1 _
      omega
    · rw [numL_step (by omega)] at h
      cases hd : numL (n / 10) with
      | nil => exact absurd hd (numL_ne _)
      | cons c' r' =>
        rw [hd] at h
        injection h with h1 _
        rw [← h1]
        exact ih (n / 10) (by omega) c' r' hd (by omega)
theorem numL_dig (n : Nat) : ∀ c ∈ numL n, dig c = true := fun c hc => dig_iff.mpr (numL_digits n c hc)
/-- what follows does not begin with a digit -/
def NoD (r : List Nat) : Prop := ∀ c q, r = c :: q → dig c = false
theorem tw_num {ds r : List Nat} (h : ∀ c ∈ ds, dig c = true) (hr : NoD r) : (ds ++ r).takeWhile dig = ds := by
  induction ds with
  | nil =>
    cases r with
    | nil => rfl
    | cons c q =>
      rw [List.nil_append, List.takeWhile_cons, if_neg (by rw [hr c q rfl]; exact Bool.false_ne_true)]
  | cons a ds ih =>
    rw [List.cons_append, List.takeWhile_cons, if_pos (h a List.mem_cons_self), ih fun c hc => h c (List.mem_cons_of_mem _ hc)]
theorem get_drop {t : List Nat} {i : Nat} {c : Nat} {r : List Nat} (h : t.drop i = c :: r) : t[i]? = some c ∧ t.drop (i + 1) = r := by
  constructor
  · have := congrArg (·[0]?) h
    simpa using this
  · rw [← List.tail_drop, h]
    rfl
theorem get_drop0 {t : List Nat} {i : Nat} (h : t.drop i = []) : t[i]? = none := by
  rw [List.getElem?_eq_none_iff]
  exact List.drop_eq_nil_iff.mp h
theorem drop_of_get {t : List Nat} {i c : Nat} (h : t[i]? = some c) : t.drop i = c :: t.drop (i + 1) := by
  obtain ⟨hl, e⟩ := List.getElem?_eq_some_iff.mp h
  rw [List.drop_eq_getElem_cons hl, e]
theorem drop_app {t a b : List Nat} {i : Nat} (h : t.drop i = a ++ b) : t.drop (i + a.length) = b := by
  rw [← List.drop_drop, h, List.drop_left]
theorem digitsVal_pos : ∀ (ds : List Nat) (c : Nat), 49 ≤ c → 1 ≤ digitsVal (c :: ds) := fun ds c hc => by
  unfold digitsVal
  rw [List.foldl_cons]
  have key : ∀ (l : List Nat) (a : Nat), 1 ≤ a → 1 ≤ l.foldl (fun acc c => acc * 10 + (c - 48)) a := fun l => by
    induction l with
    | nil => intro a h; exact h
    | cons x l ih =>
      intro a h
      rw [List.foldl_cons]
      exact ih _ (by omega)
  exact key ds _ (by omega)
theorem numL_back : ∀ (n : Nat) (ds : List Nat), ds.length = n → ds ≠ [] → (∀ c ∈ ds, dig c = true) → (ds.length = 1 ∨ ds.head? ≠ some 48) → numL (digitsVal ds) = ds := by
  intro n
  induction n with
  | zero => intro ds h h0; exact absurd (List.eq_nil_of_length_eq_zero h) h0
  | succ n ih =>
    intro ds h h0 hd hh
    obtain ⟨l, c, rfl⟩ : ∃ l c, ds = l ++ [c] := ⟨ds.dropLast, ds.getLast h0, (List.dropLast_concat_getLast h0).symm⟩
    have hc := dig_iff.mp (hd c (by simp))
    rw [digitsVal_snoc]
    cases l with
    | nil =>
      rw [show digitsVal [] = 0 from rfl, Nat.zero_mul, Nat.zero_add, numL_lt (by omega), List.nil_append]
      congr 1
      omega
    | cons a l =>
      have ha := dig_iff.mp (hd a (by simp))
      have ha' : a ≠ 48 := by
        rcases hh with z | z
        · simp at z
        · simpa using z
      have hp := digitsVal_pos l a (by omega)
      have ihl := ih (a :: l) (by simp at h ⊢; omega) (by simp) (fun c hc => hd c (List.mem_append.mpr (.inl hc))) (.inr (by simpa using ha'))
      rw [numL_step (by omega), show (digitsVal (a :: l) * 10 + (c - 48)) / 10 = digitsVal (a :: l) by omega, ihl, show 48 + (digitsVal (a :: l) * 10 + (c - 48)) % 10 = c by omega]
theorem digitsVal_lt (ds : List Nat) (hd : ∀ c ∈ ds, dig c = true) : digitsVal ds < 10 ^ ds.length := by
  obtain ⟨n, h⟩ : ∃ n, ds.length = n := ⟨_, rfl⟩
  induction n generalizing ds with
  | zero =>
    rw [List.eq_nil_of_length_eq_zero h]
    decide
  | succ n ih =>
    have h0 : ds ≠ [] := fun z => by rw [z] at h; cases h
    obtain ⟨l, c, rfl⟩ : ∃ l c, ds = l ++ [c] := ⟨ds.dropLast, ds.getLast h0, (List.dropLast_concat_getLast h0).symm⟩
    have hc := dig_iff.mp (hd c (by simp))
    have hl : l.length = n := by simp at h; exact h
    have := ih l (fun c hc => hd c (by simp [hc])) hl
    rw [digitsVal_snoc, List.length_append, hl]
    rw [hl] at this
    show _ < 10 ^ (n + 1)
    rw [Nat.pow_succ]
    omega
theorem len_le {n k : Nat} (hk : 0 < k) : (numL n).length ≤ k ↔ n < 10 ^ k := by
  constructor
  · intro h
    have := digitsVal_lt (numL n) (numL_dig n)
    rw [numL_val] at this
    exact Nat.lt_of_lt_of_le this (Nat.pow_le_pow_right (by decide) h)
  · exact numL_len hk
theorem lawDig_num {t : List Nat} {i n : Nat} {r : List Nat} (h : t.drop i = numL n ++ r) (hr : NoD r) : lawDig t i = numL n := by
  have e : (t.drop i).takeWhile dig = numL n := by rw [h]; exact tw_num (numL_dig n) hr
  unfold lawDig
  rw [e]
  cases hd : numL n with
  | nil => exact absurd hd (numL_ne _)
  | cons c q =>
    rw [hd] at h
    have e2 := (get_drop h).1
    by_cases hn : n = 0
    · subst hn
      have : q = [] := by
        have := numL_lt (n := 0) (by decide)
        rw [hd] at this
        injection this
      subst this
      exact if_pos (.inl rfl)
    · have := numL_head n c q hd hn
      exact if_pos (.inr (by rw [e2]; simpa using this))
/-- digits as the law wants them are those of their number -/
theorem lawDig_is {t : List Nat} {i : Nat} (h : lawDig t i ≠ []) : lawDig t i = (t.drop i).takeWhile dig ∧ numL (digitsVal (lawDig t i)) = lawDig t i ∧ ∃ r, t.drop i = lawDig t i ++ r ∧ NoD r := by
  unfold lawDig at h ⊢
  by_cases hc : ((t.drop i).takeWhile dig).length = 1 ∨ t[i]? ≠ some 48
  · rw [if_pos hc] at h ⊢
    refine ⟨rfl, ?_, (t.drop i).dropWhile dig, (List.takeWhile_append_dropWhile ..).symm, fun c q e => ?_⟩
    · refine numL_back _ _ rfl h (tw_all _ _) ?_
      rcases hc with z | z
      · exact .inl z
      · right
        intro w
        apply z
        cases hd : t.drop i with
        | nil => rw [hd] at h; exact absurd rfl h
        | cons c r =>
          rw [hd, List.takeWhile_cons] at w h
          by_cases hcd : dig c = true
          · rw [if_pos hcd] at w
            rw [(get_drop hd).1]
            simpa using w
          · rw [if_neg hcd] at h
            exact absurd rfl h
    · have := List.head?_dropWhile_not dig (t.drop i)
      rw [e] at this
      simpa using this
  · rw [if_neg hc] at h
    exact absurd rfl h
/-! each thing's text is read -/
theorem joinC_cons (x : List Nat) (l : List (List Nat)) (h : l ≠ []) : joinC (x :: l) = x ++ 44 :: joinC l := by
  cases l with
  | nil => exact absurd rfl h
  | cons y r => rfl
theorem noD_44 (r : List Nat) : NoD (44 :: r) := fun c q e => by
  injection e with e _
  subst e
  rfl
theorem noD_62 (r : List Nat) : NoD (62 :: r) := fun c q e => by
  injection e with e _
  subst e
  rfl
theorem noD_58 (r : List Nat) : NoD (58 :: r) := fun c q e => by
  injection e with e _
  subst e
  rfl
theorem noD_nil : NoD [] := fun c q e => by cases e
/-- a reader reads these things -/
def Rds (rec : Nat → Option (PV × Nat)) (t : List Nat) (x : PV) : Prop := ∀ i r, t.drop i = txt x ++ r → NoD r → rec i = some (x, i + (txt x).length)
theorem rLoop_all {rec : Nat → Option (PV × Nat)} {t : List Nat} : ∀ (l : List PV) (n i : Nat) (acc : List PV) (r : List Nat), l ≠ [] → (∀ x ∈ l, Rds rec t x) → l.length ≤ n → t.drop i = joinC (txts l) ++ 62 :: r →
    rLoop rec t n i acc = some (.tup (acc ++ l), i + (joinC (txts l)).length + 1)
  | [], _, _, _, _, h, _, _, _ => absurd rfl h
  | [x], 0, _, _, _, _, _, h, _ => by simp at h
  | [x], n + 1, i, acc, r, _, hR, _, hd => by
    have e1 : t.drop i = txt x ++ 62 :: r := hd
    have e2 := hR x (by simp) i _ e1 (noD_62 r)
    have e3 := (get_drop (drop_app e1)).1
    show (match rec i with | none => none | some (x, j) => if t[j]? = some 44 then rLoop rec t n (j + 1) (acc ++ [x]) else if t[j]? = some 62 then some (.tup (acc ++ [x]), j + 1) else none) = _
    rw [e2]
    show (if t[i + (txt x).length]? = some 44 then rLoop rec t n (i + (txt x).length + 1) (acc ++ [x]) else if t[i + (txt x).length]? = some 62 then some (.tup (acc ++ [x]), i + (txt x).length + 1) else none) = _
    rw [e3, if_neg (by decide), if_pos rfl]
    rfl
  | x :: y :: l, 0, _, _, _, _, _, h, _ => by simp at h
  | x :: y :: l, n + 1, i, acc, r, _, hR, hn, hd => by
    have ej : joinC (txts (x :: y :: l)) = txt x ++ 44 :: joinC (txts (y :: l)) := rfl
    rw [ej, List.append_assoc] at hd
    have e2 := hR x (by simp) i _ hd (noD_44 _)
    obtain ⟨e3, e4⟩ := get_drop (drop_app hd)
    have ih := rLoop_all (y :: l) n (i + (txt x).length + 1) (acc ++ [x]) r (by simp) (fun z hz => hR z (List.mem_cons_of_mem _ hz)) (by simp at hn ⊢; omega) e4
    show (match rec i with | none => none | some (x, j) => if t[j]? = some 44 then rLoop rec t n (j + 1) (acc ++ [x]) else if t[j]? = some 62 then some (.tup (acc ++ [x]), j + 1) else none) = _
    rw [e2]
    show (if t[i + (txt x).length]? = some 44 then rLoop rec t n (i + (txt x).length + 1) (acc ++ [x]) else _) = _
    rw [e3, if_pos rfl, ih, ej, List.length_append, List.length_cons]
    congr 2
    · rw [List.append_assoc]
      rfl
    · omega
theorem isTh_txt : ∀ {d : Nat} {x : PV}, isTh d x = true → 1 ≤ (txt x).length
  | _, .non, _ => by decide
  | _, .int i, _ => by
    show 1 ≤ (intL i).length
    unfold intL
    split
    · rw [List.length_cons]; omega
    · exact List.length_pos_iff.mpr (numL_ne _)
  | _, .str s, _ => by
    show 1 ≤ (61 :: _).length
    rw [List.length_cons]; omega
  | _, .tup l, _ => by
    show 1 ≤ (60 :: _).length
    rw [List.length_cons]; omega
  | 0, .bl _, h => by cases h
  | _ + 1, .bl _, h => by cases h
  | 0, .lst _, h => by cases h
  | _ + 1, .lst _, h => by cases h
  | 0, .ty _, h => by cases h
  | _ + 1, .ty _, h => by cases h
theorem joinC_len : ∀ (l : List PV), (∀ x ∈ l, 1 ≤ (txt x).length) → l.length ≤ (joinC (txts l)).length
  | [], _ => Nat.le_refl _
  | [x], h => h x (by simp)
  | x :: y :: l, h => by
    have := joinC_len (y :: l) (fun z hz => h z (List.mem_cons_of_mem _ hz))
    have h1 := h x (by simp)
    show _ ≤ (txt x ++ 44 :: joinC (txts (y :: l))).length
    simp only [List.length_append, List.length_cons] at this ⊢
    omega
theorem joinC_head : ∀ (l : List PV) (d : Nat), l ≠ [] → (∀ x ∈ l, isTh d x = true) → ∃ c r, joinC (txts l) = c :: r ∧ c ≠ 62
  | [], _, h, _ => absurd rfl h
  | x :: l, d, _, h => by
    have hx := h x (by simp)
    have key : ∃ c r, txt x = c :: r ∧ c ≠ 62 := by
      cases x with
      | non => exact ⟨63, [], rfl, by decide⟩
      | int i =>
        show ∃ c r, intL i = c :: r ∧ c ≠ 62
        unfold intL
        split
        · exact ⟨45, _, rfl, by decide⟩
        · cases hn : numL i.natAbs with
          | nil => exact absurd hn (numL_ne _)
          | cons c r =>
            refine ⟨c, r, rfl, fun z => ?_⟩
            have := dig_iff.mp (numL_dig i.natAbs c (by rw [hn]; simp))
            omega
      | str s => exact ⟨61, _, rfl, by decide⟩
      | tup l => exact ⟨60, _, rfl, by decide⟩
      | bl b => cases d <;> cases hx
      | lst b => cases d <;> cases hx
      | ty b => cases d <;> cases hx
    obtain ⟨c, r, e, hc⟩ := key
    cases l with
    | nil => exact ⟨c, r, e, hc⟩
    | cons y l => exact ⟨c, r ++ 44 :: joinC (txts (y :: l)), by show txt x ++ _ = _; rw [e]; rfl, hc⟩
theorem numAt_pos {t : List Nat} {i n : Nat} {r : List Nat} (h : t.drop i = numL n ++ r) (hr : NoD r) (hn : n < 10 ^ 200) : numAt t i = some ((n : Int), i + (numL n).length) := by
  cases hd : numL n with
  | nil => exact absurd hd (numL_ne _)
  | cons c q =>
    have hc := dig_iff.mp (numL_dig n c (by rw [hd]; simp))
    have e1 : t[i]? = some c := (get_drop (by rw [h, hd]; rfl : t.drop i = c :: (q ++ r))).1
    have e2 : (t.drop i).takeWhile dig = numL n := by rw [h]; exact tw_num (numL_dig n) hr
    have e3 : ¬ (some c = some 45) := fun z => by injection z with z; omega
    have hl := (len_le (n := n) (k := 200) (by decide)).mpr hn
    have h0 := List.length_pos_iff.mpr (numL_ne n)
    unfold numAt
    simp only [e1, if_neg e3]
    rw [e2, if_neg (by omega), numL_val, hd]
theorem numAt_neg {t : List Nat} {i n : Nat} {r : List Nat} (h : t.drop i = 45 :: (numL n ++ r)) (hr : NoD r) (hn : n < 10 ^ 200) : numAt t i = some (-(n : Int), i + (1 + (numL n).length)) := by
  obtain ⟨e1, e4⟩ := get_drop h
  have e2 : (t.drop (i + 1)).takeWhile dig = numL n := by rw [e4]; exact tw_num (numL_dig n) hr
  have hl := (len_le (n := n) (k := 200) (by decide)).mpr hn
  have h0 := List.length_pos_iff.mpr (numL_ne n)
  unfold numAt
  simp only [e1, if_true]
  rw [e2, if_neg (by omega), numL_val, Nat.add_assoc]
theorem natAbs_lt {i : Int} (h : (decide (-MOSTv < i) && decide (i < MOSTv)) = true) : i.natAbs < 10 ^ 200 := by
  rw [Bool.and_eq_true, decide_eq_true_eq, decide_eq_true_eq] at h
  unfold MOSTv at h
  omega
theorem tNode_th {t : List Nat} {tup : Nat → Option (PV × Nat)} {d : Nat} {x : PV} (hx : isTh d x = true) (hT : ∀ l, x = .tup l → Rds tup t x) : Rds (tNode t tup) t x := fun i r hd hr => by
  unfold tNode
  cases x with
  | non =>
    rw [(get_drop (show t.drop i = 63 :: r from hd)).1, if_pos rfl]
    rfl
  | int n =>
    have hn : n.natAbs < 10 ^ 200 := natAbs_lt (by cases d <;> exact hx)
    have hd : t.drop i = intL n ++ r := hd
    show _ = some (PV.int n, i + (intL n).length)
    unfold intL at hd ⊢
    by_cases h0 : n < 0
    · rw [if_pos h0] at hd ⊢
      have e := (get_drop (show t.drop i = 45 :: (numL n.natAbs ++ r) from hd)).1
      rw [e, if_neg (by decide), if_neg (by decide), if_neg (by decide), numAt_neg hd hr hn]
      show some (PV.int (-(n.natAbs : Int)), i + (1 + (numL n.natAbs).length)) = _
      rw [show -(n.natAbs : Int) = n by omega, List.length_cons, Nat.add_comm 1]
    · rw [if_neg h0] at hd ⊢
      cases hq : numL n.natAbs with
      | nil => exact absurd hq (numL_ne _)
      | cons c q =>
        have hc := dig_iff.mp (numL_dig n.natAbs c (by rw [hq]; simp))
        have e := (get_drop (by rw [hd, hq]; rfl : t.drop i = c :: (q ++ r))).1
        rw [e, if_neg (by simp; omega), if_neg (by simp; omega), if_neg (by simp; omega), numAt_pos hd hr hn]
        show some (PV.int (n.natAbs : Int), i + (numL n.natAbs).length) = _
        rw [show (n.natAbs : Int) = n by omega, hq]
  | str s =>
    have hs : (decide (s.length ≤ 2000) && s.cps.toList.all signOk) = true := by cases d <;> exact hx
    rw [Bool.and_eq_true, decide_eq_true_eq] at hs
    have hd : t.drop i = 61 :: (numL s.length ++ 58 :: s.cps.toList) ++ r := hd
    rw [List.cons_append, List.append_assoc, List.cons_append] at hd
    obtain ⟨e1, e2⟩ := get_drop hd
    have hn : s.length < 10 ^ 200 := Nat.lt_of_le_of_lt hs.1 (by decide +kernel)
    have e3 := numAt_pos e2 (noD_58 _) hn
    obtain ⟨e4, e5⟩ := get_drop (drop_app e2)
    have el : s.length = s.cps.toList.length := by simp [Str.length]
    have e6 : ((i + 1 + (numL s.length).length : Nat) : Int) + 1 + (s.length : Int) ≤ t.length := by
      have := congrArg List.length e5
      rw [List.length_drop, List.length_append, ← el] at this
      have h2 : 0 < s.length ∨ s.length = 0 := by omega
      have h3 := (List.getElem?_eq_some_iff.mp e4).1
      omega
    have e7 : strAt t (i + 1) = some (s.cps.toList, i + 1 + (numL s.length).length + 1 + s.length) := by
      unfold strAt
      rw [e3]
      show (if _ then _ else _) = _
      rw [if_pos ⟨e4, by omega, by omega, e6⟩, e5, Int.toNat_natCast, el, List.take_left]
    rw [e1, if_neg (by decide), if_pos rfl, e7]
    show some (PV.str (S s.cps.toList), _) = some (PV.str s, i + (61 :: (numL s.length ++ 58 :: s.cps.toList)).length)
    rw [← S_of, List.length_cons, List.length_append, List.length_cons, ← el]
    congr 2
    omega
  | tup l =>
    have e := (get_drop (show t.drop i = 60 :: ((joinC (txts l) ++ [62]) ++ r) from hd)).1
    rw [e, if_neg (by decide), if_neg (by decide), if_pos rfl]
    exact hT l rfl i r hd hr
  | bl b => cases d <;> cases hx
  | lst b => cases d <;> cases hx
  | ty b => cases d <;> cases hx
theorem tAt_th (t : List Nat) : ∀ (d : Nat) (x : PV), isTh d x = true → Rds (tAt t d) t x
  | 0, x, hx => tNode_th hx fun l e => by subst e; cases hx
  | d + 1, x, hx => tNode_th hx fun l e => by
    subst e
    have hl := isThs_mem (show isThs d l = true from hx)
    intro i r hd hr
    have hd : t.drop i = 60 :: (joinC (txts l) ++ [62]) ++ r := hd
    rw [List.cons_append, List.append_assoc] at hd
    obtain ⟨e1, e2⟩ := get_drop hd
    show (if t[i + 1]? = some 62 then _ else _) = some (PV.tup l, i + (60 :: (joinC (txts l) ++ [62])).length)
    cases l with
    | nil =>
      rw [(get_drop (show t.drop (i + 1) = 62 :: r from e2)).1, if_pos rfl]
      rfl
    | cons y l =>
      obtain ⟨c, q, hj, hc⟩ := joinC_head (y :: l) d (by simp) hl
      have e3 := (get_drop (by rw [e2, hj]; rfl : t.drop (i + 1) = c :: (q ++ ([62] ++ r)))).1
      rw [e3, if_neg (by simpa using hc), rLoop_all (y :: l) (t.length + 1) (i + 1) [] r (by simp) (fun z hz => tAt_th t d z (hl z hz)) ?_ e2]
      · rw [List.length_cons, List.length_append, List.nil_append]
        congr 2
        show _ = _ + ((joinC (txts (y :: l))).length + 1 + 1)
        omega
      · have h1 := joinC_len (y :: l) fun z hz => isTh_txt (hl z hz)
        have h2 := congrArg List.length e2
        rw [List.length_drop, List.length_append] at h2
        omega
theorem lawDig_cons {t : List Nat} {i n : Nat} {r : List Nat} (h : t.drop i = numL n ++ r) (hr : NoD r) : lawDig t i = numL n := lawDig_num h hr
theorem okc_sign {c : Nat} (h : signOk c = true) : okc c = true := by
  unfold signOk at h
  unfold okc
  simp at h ⊢
  omega
theorem rNode_th {t : List Nat} {tup : Nat → Option (PV × Nat)} {d : Nat} {x : PV} (hx : isTh d x = true) (hT : ∀ l, x = .tup l → Rds tup t x) : Rds (rNode t tup) t x := fun i r hd hr => by
  unfold rNode
  cases x with
  | non =>
    rw [(get_drop (show t.drop i = 63 :: r from hd)).1, if_pos rfl]
    rfl
  | int n =>
    have hn : n.natAbs < 10 ^ 200 := natAbs_lt (by cases d <;> exact hx)
    have hl := (len_le (n := n.natAbs) (k := 200) (by decide)).mpr hn
    have hd : t.drop i = intL n ++ r := hd
    show _ = some (PV.int n, i + (intL n).length)
    unfold intL at hd ⊢
    by_cases h0 : n < 0
    · rw [if_pos h0] at hd ⊢
      obtain ⟨e, e2⟩ := get_drop (show t.drop i = 45 :: (numL n.natAbs ++ r) from hd)
      have e3 := lawDig_num e2 hr
      have e4 : numL n.natAbs ≠ [48] := fun z => by
        have := congrArg digitsVal z
        rw [numL_val] at this
        have : n.natAbs = 0 := this
        omega
      have e5 : rNum t i = some (n, i + 1 + (numL n.natAbs).length) := by
        unfold rNum
        simp only [e, if_true]
        rw [e3, if_neg (by intro z; rcases z with z | z | z; exact numL_ne _ z; omega; exact e4 z.2), numL_val]
        rw [show -(n.natAbs : Int) = n by omega]
      rw [e, if_neg (by decide), if_neg (by decide), if_neg (by decide), e5]
      show some (PV.int n, i + 1 + (numL n.natAbs).length) = _
      rw [List.length_cons]
      congr 2
      omega
    · rw [if_neg h0] at hd ⊢
      cases hq : numL n.natAbs with
      | nil => exact absurd hq (numL_ne _)
      | cons c q =>
        have hc := dig_iff.mp (numL_dig n.natAbs c (by rw [hq]; simp))
        have e := (get_drop (by rw [hd, hq]; rfl : t.drop i = c :: (q ++ r))).1
        have e3 := lawDig_num hd hr
        have e45 : ¬ (some c = some 45) := fun z => by injection z with z; omega
        have e5 : rNum t i = some (n, i + (numL n.natAbs).length) := by
          unfold rNum
          simp only [e, if_neg e45]
          rw [e3, if_neg (by intro z; rcases z with z | z | z; exact numL_ne _ z; omega; exact e45 z.1), numL_val]
          rw [show (n.natAbs : Int) = n by omega]
        rw [e, if_neg (by simp; omega), if_neg (by simp; omega), if_neg (by simp; omega), e5, hq]
        rfl
  | str s =>
    have hs : (decide (s.length ≤ 2000) && s.cps.toList.all signOk) = true := by cases d <;> exact hx
    rw [Bool.and_eq_true, decide_eq_true_eq] at hs
    have hd : t.drop i = 61 :: (numL s.length ++ 58 :: s.cps.toList) ++ r := hd
    rw [List.cons_append, List.append_assoc, List.cons_append] at hd
    obtain ⟨e1, e2⟩ := get_drop hd
    have e3 := lawDig_num e2 (noD_58 _)
    obtain ⟨e4, e5⟩ := get_drop (drop_app e2)
    have el : s.length = s.cps.toList.length := by simp [Str.length]
    have hl4 : (numL s.length).length ≤ 4 := (len_le (by decide)).mpr (Nat.lt_of_le_of_lt hs.1 (by decide))
    have e7 : rStr t i = some (s.cps.toList, i + 2 + (numL s.length).length + s.length) := by
      unfold rStr
      simp only [e3]
      rw [show i + 2 + (numL s.length).length - 1 = i + 1 + (numL s.length).length by omega, e4, if_neg (by intro z; rcases z with z | z | z; exact numL_ne _ z; omega; exact z rfl), numL_val]
      rw [show i + 2 + (numL s.length).length = i + 1 + (numL s.length).length + 1 by omega, e5]
      have e8 : (s.cps.toList ++ r).take s.length = s.cps.toList := by rw [el, List.take_left]
      rw [e8, if_pos ⟨el.symm, by omega, List.all_eq_true.mpr fun c hc => okc_sign (List.all_eq_true.mp hs.2 c hc)⟩]
    rw [e1, if_neg (by decide), if_pos rfl, e7]
    show some (PV.str (S s.cps.toList), _) = some (PV.str s, i + (61 :: (numL s.length ++ 58 :: s.cps.toList)).length)
    rw [← S_of, List.length_cons, List.length_append, List.length_cons, ← el]
    congr 2
    omega
  | tup l =>
    have e := (get_drop (show t.drop i = 60 :: ((joinC (txts l) ++ [62]) ++ r) from hd)).1
    rw [e, if_neg (by decide), if_neg (by decide), if_pos rfl]
    exact hT l rfl i r hd hr
  | bl b => cases d <;> cases hx
  | lst b => cases d <;> cases hx
  | ty b => cases d <;> cases hx
theorem rAt_th (t : List Nat) : ∀ (d : Nat) (x : PV), isTh d x = true → Rds (rAt t d) t x
  | 0, x, hx => rNode_th hx fun l e => by subst e; cases hx
  | d + 1, x, hx => rNode_th hx fun l e => by
    subst e
    have hl := isThs_mem (show isThs d l = true from hx)
    intro i r hd hr
    have hd : t.drop i = 60 :: (joinC (txts l) ++ [62]) ++ r := hd
    rw [List.cons_append, List.append_assoc] at hd
    obtain ⟨e1, e2⟩ := get_drop hd
    show (if t[i + 1]? = some 62 then _ else _) = some (PV.tup l, i + (60 :: (joinC (txts l) ++ [62])).length)
    cases l with
    | nil =>
      rw [(get_drop (show t.drop (i + 1) = 62 :: r from e2)).1, if_pos rfl]
      rfl
    | cons y l =>
      obtain ⟨c, q, hj, hc⟩ := joinC_head (y :: l) d (by simp) hl
      have e3 := (get_drop (by rw [e2, hj]; rfl : t.drop (i + 1) = c :: (q ++ ([62] ++ r)))).1
      rw [e3, if_neg (by simpa using hc), rLoop_all (y :: l) t.length (i + 1) [] r (by simp) (fun z hz => rAt_th t d z (hl z hz)) ?_ e2]
      · rw [List.length_cons, List.length_append, List.nil_append]
        congr 2
        show _ = _ + ((joinC (txts (y :: l))).length + 1 + 1)
        omega
      · have h1 := joinC_len (y :: l) fun z hz => isTh_txt (hl z hz)
        have h2 := congrArg List.length e2
        rw [List.length_drop, List.length_append] at h2
        omega
/-! what the law reads is a thing's text -/
def Snd (rec : Nat → Option (PV × Nat)) (t : List Nat) (d : Nat) : Prop := ∀ i x j, rec i = some (x, j) → isTh d x = true ∧ t.drop i = txt x ++ t.drop j ∧ i < j
theorem drop_split (t : List Nat) (i n : Nat) : t.drop i = (t.drop i).take n ++ t.drop (i + n) := by
  rw [← List.drop_drop, List.take_append_drop]
theorem rLoop_snd {rec : Nat → Option (PV × Nat)} {t : List Nat} {d : Nat} (hR : Snd rec t d) : ∀ (n i : Nat) (acc : List PV) (x : PV) (j : Nat), rLoop rec t n i acc = some (x, j) →
    ∃ l, l ≠ [] ∧ x = .tup (acc ++ l) ∧ isThs d l = true ∧ t.drop i = joinC (txts l) ++ 62 :: t.drop j ∧ i < j
  | 0, _, _, _, _, h => by cases h
  | n + 1, i, acc, x, j, h => by
    have h : (match rec i with | none => none | some (x, j) => if t[j]? = some 44 then rLoop rec t n (j + 1) (acc ++ [x]) else if t[j]? = some 62 then some (.tup (acc ++ [x]), j + 1) else none) = some (x, j) := h
    cases hr : rec i with
    | none => rw [hr] at h; cases h
    | some p =>
      obtain ⟨y, k⟩ := p
      rw [hr] at h
      obtain ⟨h1, h2, h3⟩ := hR i y k hr
      have h : (if t[k]? = some 44 then rLoop rec t n (k + 1) (acc ++ [y]) else if t[k]? = some 62 then some (.tup (acc ++ [y]), k + 1) else none) = some (x, j) := h
      by_cases c1 : t[k]? = some 44
      · rw [if_pos c1] at h
        obtain ⟨l, g1, g2, g3, g4, g5⟩ := rLoop_snd hR n (k + 1) (acc ++ [y]) x j h
        refine ⟨y :: l, by simp, by rw [g2, List.append_assoc]; rfl, ?_, ?_, by omega⟩
        · show (isTh d y && isThs d l) = true
          rw [h1, g3]
          rfl
        · rw [h2, drop_of_get c1, g4]
          show _ = joinC (txt y :: txts l) ++ _
          rw [joinC_cons _ _ (by cases l with | nil => exact absurd rfl g1 | cons a b => simp [txts]), List.append_assoc]
          rfl
      · rw [if_neg c1] at h
        by_cases c2 : t[k]? = some 62
        · rw [if_pos c2] at h
          injection h with h
          injection h with ha hb
          subst ha hb
          refine ⟨[y], by simp, rfl, ?_, ?_, by omega⟩
          · show (isTh d y && true) = true
            rw [h1]
            rfl
          · rw [h2, drop_of_get c2]
            rfl
        · rw [if_neg c2] at h
          cases h
theorem rStr_snd {t : List Nat} (h37 : ∀ c ∈ t, c ≠ 37) {i j : Nat} {s : List Nat} (h0 : t[i]? = some 61) (h : rStr t i = some (s, j)) : s.length ≤ 2000 ∧ s.all signOk = true ∧ t.drop i = 61 :: (numL s.length ++ 58 :: s) ++ t.drop j ∧ i < j := by
  unfold rStr at h
  simp only at h
  split at h
  · cases h
  · rename_i hc
    split at h
    · rename_i hd
      injection h with h
      injection h with ha hb
      have hne : lawDig t (i + 1) ≠ [] := fun z => hc (.inl z)
      obtain ⟨e1, e2, r, e3, e4⟩ := lawDig_is hne
      have h58 : t[i + 2 + (lawDig t (i + 1)).length - 1]? = some 58 := by
        cases z : decide (t[i + 2 + (lawDig t (i + 1)).length - 1]? = some 58) with
        | true => exact of_decide_eq_true z
        | false => exact absurd (.inr (.inr (of_decide_eq_false z))) hc
      rw [show i + 2 + (lawDig t (i + 1)).length - 1 = i + 1 + (lawDig t (i + 1)).length by omega] at h58
      have el : s.length = digitsVal (lawDig t (i + 1)) := by rw [← ha]; exact hd.1
      refine ⟨by omega, ?_, ?_, by omega⟩
      · rw [List.all_eq_true]
        intro c hcs
        have hok := List.all_eq_true.mp hd.2.2 c (by rw [ha]; exact hcs)
        have hm : c ∈ t := by
          rw [← ha] at hcs
          exact List.mem_of_mem_drop (List.mem_of_mem_take hcs)
        have := h37 c hm
        unfold okc at hok
        unfold signOk
        simp at hok ⊢
        omega
      · rw [el, e2, drop_of_get h0]
        have e5 : t.drop (i + 1) = lawDig t (i + 1) ++ t.drop (i + 1 + (lawDig t (i + 1)).length) := by
          have := drop_split t (i + 1) (lawDig t (i + 1)).length
          rw [e3, List.take_left, ← e3] at this
          exact this
        have e6 := drop_of_get h58
        have e7 := drop_split t (i + 2 + (lawDig t (i + 1)).length) (digitsVal (lawDig t (i + 1)))
        rw [ha, hb] at e7
        rw [show i + 1 + (lawDig t (i + 1)).length + 1 = i + 2 + (lawDig t (i + 1)).length by omega] at e6
        generalize lawDig t (i + 1) = ds at *
        rw [e5, e6, e7]
        simp
    · cases h
theorem rNum_snd {t : List Nat} {i j : Nat} {n : Int} (h : rNum t i = some (n, j)) : (decide (-MOSTv < n) && decide (n < MOSTv)) = true ∧ t.drop i = intL n ++ t.drop j ∧ i < j := by
  have key : ∀ b, lawDig t b ≠ [] → (lawDig t b).length ≤ 200 → digitsVal (lawDig t b) < 10 ^ 200 ∧ t.drop b = numL (digitsVal (lawDig t b)) ++ t.drop (b + (lawDig t b).length) := fun b hne hl => by
    obtain ⟨e1, e2, r, e3, e4⟩ := lawDig_is hne
    refine ⟨?_, ?_⟩
    · refine Nat.lt_of_lt_of_le (digitsVal_lt _ ?_) (Nat.pow_le_pow_right (by decide) hl)
      rw [e1]
      exact tw_all _ _
    · rw [e2]
      have := drop_split t b (lawDig t b).length
      rw [e3, List.take_left, ← e3] at this
      exact this
  by_cases hs : t[i]? = some 45
  · unfold rNum at h
    simp only [hs, if_true, true_and] at h
    by_cases hc : lawDig t (i + 1) = [] ∨ 200 < (lawDig t (i + 1)).length ∨ lawDig t (i + 1) = [48]
    · rw [if_pos hc] at h
      cases h
    · rw [if_neg hc] at h
      injection h with h
      injection h with ha hb
      have hne : lawDig t (i + 1) ≠ [] := fun z => hc (.inl z)
      have hl : (lawDig t (i + 1)).length ≤ 200 := by
        rcases Nat.lt_or_ge 200 (lawDig t (i + 1)).length with z | z
        · exact absurd (.inr (.inl z)) hc
        · exact z
      have h48 : lawDig t (i + 1) ≠ [48] := fun z => hc (.inr (.inr z))
      obtain ⟨k1, k2⟩ := key (i + 1) hne hl
      have hv : digitsVal (lawDig t (i + 1)) ≠ 0 := fun z => h48 (by
        have := (lawDig_is hne).2.1
        rw [z] at this
        rw [← this]
        exact numL_lt (by decide))
      rw [hb] at k2
      generalize digitsVal (lawDig t (i + 1)) = v at *
      subst ha
      refine ⟨?_, ?_, by omega⟩
      · rw [Bool.and_eq_true, decide_eq_true_eq, decide_eq_true_eq]
        unfold MOSTv
        omega
      · rw [drop_of_get hs, k2]
        unfold intL
        rw [if_pos (by omega), show (-(v : Int)).natAbs = v by omega]
        rfl
  · unfold rNum at h
    simp only [hs, if_false, false_and, or_false] at h
    by_cases hc : lawDig t i = [] ∨ 200 < (lawDig t i).length
    · rw [if_pos hc] at h
      cases h
    · rw [if_neg hc] at h
      injection h with h
      injection h with ha hb
      have hne : lawDig t i ≠ [] := fun z => hc (.inl z)
      have hl : (lawDig t i).length ≤ 200 := by
        rcases Nat.lt_or_ge 200 (lawDig t i).length with z | z
        · exact absurd (.inr z) hc
        · exact z
      obtain ⟨k1, k2⟩ := key i hne hl
      have hpos := List.length_pos_iff.mpr hne
      rw [hb] at k2
      generalize digitsVal (lawDig t i) = v at *
      subst ha
      refine ⟨?_, ?_, by omega⟩
      · rw [Bool.and_eq_true, decide_eq_true_eq, decide_eq_true_eq]
        unfold MOSTv
        omega
      · rw [k2]
        unfold intL
        rw [if_neg (by omega), show ((v : Int)).natAbs = v by omega]
theorem rNode_snd {t : List Nat} (h37 : ∀ c ∈ t, c ≠ 37) {tup : Nat → Option (PV × Nat)} {d : Nat} (hT : ∀ i x j, t[i]? = some 60 → tup i = some (x, j) → isTh d x = true ∧ t.drop i = txt x ++ t.drop j ∧ i < j) : Snd (rNode t tup) t d := fun i x j h => by
  unfold rNode at h
  by_cases c1 : t[i]? = some 63
  · rw [if_pos c1] at h
    injection h with h
    injection h with ha hb
    subst ha hb
    exact ⟨by cases d <;> rfl, drop_of_get c1, by omega⟩
  · rw [if_neg c1] at h
    by_cases c2 : t[i]? = some 61
    · rw [if_pos c2] at h
      cases hr : rStr t i with
      | none => rw [hr] at h; cases h
      | some p =>
        obtain ⟨s, k⟩ := p
        rw [hr] at h
        injection h with h
        injection h with ha hb
        subst ha hb
        obtain ⟨g1, g2, g3, g4⟩ := rStr_snd h37 c2 hr
        refine ⟨?_, ?_, g4⟩
        · have : (decide ((S s).length ≤ 2000) && (S s).cps.toList.all signOk) = true := by
            rw [S_len, S_list, g2, decide_eq_true g1]
            rfl
          cases d <;> exact this
        · show t.drop i = 61 :: (numL (S s).length ++ 58 :: (S s).cps.toList) ++ t.drop k
          rw [S_len, S_list]
          exact g3
    · rw [if_neg c2] at h
      by_cases c3 : t[i]? = some 60
      · rw [if_pos c3] at h
        exact hT i x j c3 h
      · rw [if_neg c3] at h
        cases hr : rNum t i with
        | none => rw [hr] at h; cases h
        | some p =>
          obtain ⟨n, k⟩ := p
          rw [hr] at h
          injection h with h
          injection h with ha hb
          subst ha hb
          obtain ⟨g1, g2, g3⟩ := rNum_snd hr
          exact ⟨by cases d <;> exact g1, g2, g3⟩
theorem rAt_snd {t : List Nat} (h37 : ∀ c ∈ t, c ≠ 37) : ∀ d, Snd (rAt t d) t d
  | 0 => rNode_snd h37 fun i x j _ h => by cases h
  | d + 1 => rNode_snd h37 fun i x j h60 h => by
    have h : (if t[i + 1]? = some 62 then some (.tup [], i + 1 + 1) else rLoop (rAt t d) t t.length (i + 1) []) = some (x, j) := h
    by_cases c : t[i + 1]? = some 62
    · rw [if_pos c] at h
      injection h with h
      injection h with ha hb
      subst ha hb
      refine ⟨rfl, ?_, by omega⟩
      rw [drop_of_get h60, drop_of_get c]
      rfl
    · rw [if_neg c] at h
      obtain ⟨l, g1, g2, g3, g4, g5⟩ := rLoop_snd (rAt_snd h37 d) t.length (i + 1) [] x j h
      subst g2
      refine ⟨g3, ?_, by omega⟩
      rw [drop_of_get h60, g4]
      show 60 :: _ = 60 :: (joinC (txts l) ++ [62]) ++ _
      rw [List.cons_append, List.append_assoc]
      rfl
/-! the two readings -/
/-- read_thing on a text: the thing, or none -/
def readT (t : List Nat) : Option PV := match tAt t 20 0 with
  | none => none
  | some (x, e) => if e = t.length ∧ isTh 20 x = true ∧ txt x = t then some x else none
theorem readT_iff {t : List Nat} {x : PV} : readT t = some x ↔ isTh 20 x = true ∧ txt x = t := by
  constructor
  · intro h
    unfold readT at h
    split at h
    · cases h
    · split at h
      · rename_i hc
        injection h with h
        subst h
        exact hc.2
      · cases h
  · intro ⟨h1, h2⟩
    have := tAt_th t 20 x h1 0 [] (by rw [List.drop_zero, List.append_nil, h2]) noD_nil
    unfold readT
    rw [this]
    show (if _ then _ else _) = _
    rw [if_pos ⟨by rw [h2]; omega, h1, h2⟩]
theorem rAt_iff {t : List Nat} (h37 : ∀ c ∈ t, c ≠ 37) {x : PV} : rAt t 20 0 = some (x, t.length) ↔ isTh 20 x = true ∧ txt x = t := by
  constructor
  · intro h
    obtain ⟨h1, h2, _⟩ := rAt_snd h37 20 0 x t.length h
    rw [List.drop_zero, List.drop_length, List.append_nil] at h2
    exact ⟨h1, h2.symm⟩
  · intro ⟨h1, h2⟩
    have := rAt_th t 20 x h1 0 [] (by rw [List.drop_zero, List.append_nil, h2]) noD_nil
    rw [this, Nat.zero_add, h2]
/-- what the law takes for whole is what is read -/
theorem whole_iff {t : List Nat} (h37 : ∀ c ∈ t, c ≠ 37) {x : PV} : rAt t 20 0 = some (x, t.length) ↔ readT t = some x := (rAt_iff h37).trans readT_iff.symm
/-! reading goes on -/
theorem numAt_prog {t : List Nat} {i j : Nat} {n : Int} (h : numAt t i = some (n, j)) : i < j := by
  unfold numAt at h
  simp only at h
  by_cases c : ((t.drop (if t[i]? = some 45 then i + 1 else i)).takeWhile dig).length = 0 ∨ 200 < ((t.drop (if t[i]? = some 45 then i + 1 else i)).takeWhile dig).length
  · rw [if_pos c] at h; cases h
  · rw [if_neg c] at h
    injection h with h
    injection h with _ hb
    have : i ≤ (if t[i]? = some 45 then i + 1 else i) := by split <;> omega
    omega
theorem strAt_prog {t : List Nat} {i j : Nat} {s : List Nat} (h : strAt t i = some (s, j)) : i < j := by
  unfold strAt at h
  cases hn : numAt t i with
  | none => rw [hn] at h; cases h
  | some p =>
    obtain ⟨m, k⟩ := p
    rw [hn] at h
    have h : (if t[k]? = some 58 ∧ 0 ≤ m ∧ m ≤ 2000 ∧ (k : Int) + 1 + m ≤ t.length then some ((t.drop (k + 1)).take m.toNat, k + 1 + m.toNat) else none) = some (s, j) := h
    have := numAt_prog hn
    split at h
    · injection h with h
      injection h with _ hb
      omega
    · cases h
theorem rLoop_prog {rec : Nat → Option (PV × Nat)} {t : List Nat} (hR : ∀ i x j, rec i = some (x, j) → i < j) : ∀ (n i : Nat) (acc : List PV) (x : PV) (j : Nat), rLoop rec t n i acc = some (x, j) → i < j
  | 0, _, _, _, _, h => by cases h
  | n + 1, i, acc, x, j, h => by
    have h : (match rec i with | none => none | some (x, j) => if t[j]? = some 44 then rLoop rec t n (j + 1) (acc ++ [x]) else if t[j]? = some 62 then some (.tup (acc ++ [x]), j + 1) else none) = some (x, j) := h
    cases hr : rec i with
    | none => rw [hr] at h; cases h
    | some p =>
      obtain ⟨y, k⟩ := p
      rw [hr] at h
      have h1 := hR i y k hr
      have h : (if t[k]? = some 44 then rLoop rec t n (k + 1) (acc ++ [y]) else if t[k]? = some 62 then some (.tup (acc ++ [y]), k + 1) else none) = some (x, j) := h
      by_cases c1 : t[k]? = some 44
      · rw [if_pos c1] at h
        have := rLoop_prog hR n (k + 1) (acc ++ [y]) x j h
        omega
      · rw [if_neg c1] at h
        by_cases c2 : t[k]? = some 62
        · rw [if_pos c2] at h
          injection h with h
          injection h with _ hb
          omega
        · rw [if_neg c2] at h; cases h
theorem tNode_prog {t : List Nat} {tup : Nat → Option (PV × Nat)} (hT : ∀ i x j, tup i = some (x, j) → i < j) {i : Nat} {x : PV} {j : Nat} (h : tNode t tup i = some (x, j)) : i < j := by
  unfold tNode at h
  by_cases c1 : t[i]? = some 63
  · rw [if_pos c1] at h
    injection h with h
    injection h with _ hb
    omega
  · rw [if_neg c1] at h
    by_cases c2 : t[i]? = some 61
    · rw [if_pos c2] at h
      cases hs : strAt t (i + 1) with
      | none => rw [hs] at h; cases h
      | some p =>
        rw [hs] at h
        injection h with h
        injection h with _ hb
        have := strAt_prog (s := p.1) (j := p.2) hs
        have hb : p.2 = j := hb
        omega
    · rw [if_neg c2] at h
      by_cases c3 : t[i]? = some 60
      · rw [if_pos c3] at h
        exact hT i x j h
      · rw [if_neg c3] at h
        cases hs : numAt t i with
        | none => rw [hs] at h; cases h
        | some p =>
          rw [hs] at h
          injection h with h
          injection h with _ hb
          have := numAt_prog (n := p.1) (j := p.2) hs
          have hb : p.2 = j := hb
          omega
theorem tAt_prog (t : List Nat) : ∀ (d i : Nat) (x : PV) (j : Nat), tAt t d i = some (x, j) → i < j
  | 0, i, x, j, h => tNode_prog (fun i x j h => by cases h) h
  | d + 1, i, x, j, h => tNode_prog (fun i x j h => by
    have h : (if t[i + 1]? = some 62 then some (.tup [], i + 2) else rLoop (tAt t d) t (t.length + 1) (i + 1) []) = some (x, j) := h
    by_cases c : t[i + 1]? = some 62
    · rw [if_pos c] at h
      injection h with h
      injection h with _ hb
      omega
    · rw [if_neg c] at h
      have := rLoop_prog (fun i x j h => tAt_prog t d i x j h) _ _ _ _ _ h
      omega) h
end K10
end
section
set_option maxRecDepth 100000
set_option maxHeartbeats 4000000
namespace K10
open PySem PySem.Spec PyProof.Rows L2 TLy
def topS (i : Nat) : Stmt := PySem.Challenge.pw_waysretraced_k10_whole_thing_texts_bent.main.body.getD i (.Pass ⟨0, 0, 0, 0⟩)
/-- a def that stands at f -/
structure DefK (K : PySem.W.Frag) (mg : Str → Option Value) (x : Str) (st : Stmt) (ps : List Str) (f : Addr) (fd : FuncData) : Prop where
  F : Fun K x x st f fd
  g : mg x = some (.ref f)
  b : Binds K fd ps []
structure ExcK (K : PySem.W.Frag) (mg : Str → Option Value) (nm : Str) (C : Addr) : Prop where
  x : PySem.W.excIn K C [.type "ValueError", .type "Exception", .type "BaseException", .type "object"] "ValueError.__new__" = true
  g : mg nm = some (.ref C)
  k : PySem.W.keepIn K (.ref C) = true
  b : PySem.W.subIn K (.ref C) (.type "BaseException") = some true
  t : PySem.W.typeIn K (.ref C) = some (.type "type")
abbrev s_is_sign : Stmt := topS 11
abbrev N_is_sign : List Str := ["own"]
theorem sc_is_sign : FnScope N_is_sign ["own"] (defScope s_is_sign) := ⟨rfl, rfl, rfl, by decide +kernel, rfl, by decide +kernel, by decide +kernel⟩
abbrev s_is_thing_in : Stmt := topS 12
abbrev N_is_thing_in : List Str := ["value", "deep", "own"]
theorem sc_is_thing_in : FnScope N_is_thing_in ["value", "deep"] (defScope s_is_thing_in) := ⟨rfl, rfl, rfl, by decide +kernel, rfl, by decide +kernel, by decide +kernel⟩
abbrev s_text_in : Stmt := topS 13
abbrev N_text_in : List Str := ["thing", "own"]
theorem sc_text_in : FnScope N_text_in ["thing"] (defScope s_text_in) := ⟨rfl, rfl, rfl, by decide +kernel, rfl, by decide +kernel, by decide +kernel⟩
abbrev s_bad : Stmt := topS 14
abbrev N_bad : List Str := []
theorem sc_bad : FnScope N_bad [] (defScope s_bad) := ⟨rfl, rfl, rfl, by decide +kernel, rfl, by decide +kernel, by decide +kernel⟩
abbrev s_digits_end : Stmt := topS 15
abbrev N_digits_end : List Str := ["text", "at"]
theorem sc_digits_end : FnScope N_digits_end ["text", "at"] (defScope s_digits_end) := ⟨rfl, rfl, rfl, by decide +kernel, rfl, by decide +kernel, by decide +kernel⟩
abbrev s_number_at : Stmt := topS 16
abbrev N_number_at : List Str := ["text", "at", "begin", "end"]
theorem sc_number_at : FnScope N_number_at ["text", "at"] (defScope s_number_at) := ⟨rfl, rfl, rfl, by decide +kernel, rfl, by decide +kernel, by decide +kernel⟩
abbrev s_text_at : Stmt := topS 17
abbrev N_text_at : List Str := ["text", "at", "many"]
theorem sc_text_at : FnScope N_text_at ["text", "at"] (defScope s_text_at) := ⟨rfl, rfl, rfl, by decide +kernel, rfl, by decide +kernel, by decide +kernel⟩
abbrev s_thing_at : Stmt := topS 18
abbrev N_thing_at : List Str := ["text", "at", "deep", "sign", "found", "mark", "own"]
theorem sc_thing_at : FnScope N_thing_at ["text", "at", "deep"] (defScope s_thing_at) := ⟨rfl, rfl, rfl, by decide +kernel, rfl, by decide +kernel, by decide +kernel⟩
abbrev s_thing_of_text : Stmt := topS 19
abbrev N_thing_of_text : List Str := ["text", "found", "end"]
theorem sc_thing_of_text : FnScope N_thing_of_text ["text"] (defScope s_thing_of_text) := ⟨rfl, rfl, rfl, by decide +kernel, rfl, by decide +kernel, by decide +kernel⟩
abbrev s_need_thing : Stmt := topS 20
abbrev N_need_thing : List Str := ["value"]
theorem sc_need_thing : FnScope N_need_thing ["value"] (defScope s_need_thing) := ⟨rfl, rfl, rfl, by decide +kernel, rfl, by decide +kernel, by decide +kernel⟩
abbrev s_is_thing : Stmt := topS 21
abbrev N_is_thing : List Str := ["value"]
theorem sc_is_thing : FnScope N_is_thing ["value"] (defScope s_is_thing) := ⟨rfl, rfl, rfl, by decide +kernel, rfl, by decide +kernel, by decide +kernel⟩
abbrev s_thing_text : Stmt := topS 22
abbrev N_thing_text : List Str := ["value", "found"]
theorem sc_thing_text : FnScope N_thing_text ["value"] (defScope s_thing_text) := ⟨rfl, rfl, rfl, by decide +kernel, rfl, by decide +kernel, by decide +kernel⟩
abbrev s_read_thing : Stmt := topS 23
abbrev N_read_thing : List Str := ["text"]
theorem sc_read_thing : FnScope N_read_thing ["text"] (defScope s_read_thing) := ⟨rfl, rfl, rfl, by decide +kernel, rfl, by decide +kernel, by decide +kernel⟩
abbrev s__law_cup : Stmt := topS 25
abbrev N__law_cup : List Str := ["script", "cell"]
theorem sc__law_cup : FnScope N__law_cup ["script"] (defScope s__law_cup) := ⟨rfl, rfl, rfl, by decide +kernel, rfl, by decide +kernel, by decide +kernel⟩
abbrev s__law_roll : Stmt := topS 26
abbrev N__law_roll : List Str := ["cup", "many", "found"]
theorem sc__law_roll : FnScope N__law_roll ["cup", "many"] (defScope s__law_roll) := ⟨rfl, rfl, rfl, by decide +kernel, rfl, by decide +kernel, by decide +kernel⟩
abbrev s__law_some : Stmt := topS 27
abbrev N__law_some : List Str := ["cup", "things"]
theorem sc__law_some : FnScope N__law_some ["cup", "things"] (defScope s__law_some) := ⟨rfl, rfl, rfl, by decide +kernel, rfl, by decide +kernel, by decide +kernel⟩
abbrev s__law_sort : Stmt := topS 28
abbrev N__law_sort : List Str := ["value"]
theorem sc__law_sort : FnScope N__law_sort ["value"] (defScope s__law_sort) := ⟨rfl, rfl, rfl, by decide +kernel, rfl, by decide +kernel, by decide +kernel⟩
abbrev s__law_like : Stmt := topS 29
abbrev N__law_like : List Str := ["one", "other", "sort", "first", "second"]
theorem sc__law_like : FnScope N__law_like ["one", "other"] (defScope s__law_like) := ⟨rfl, rfl, rfl, by decide +kernel, rfl, by decide +kernel, by decide +kernel⟩
abbrev s__law_told : Stmt := topS 30
abbrev N__law_told : List Str := ["call", "e"]
theorem sc__law_told : FnScope N__law_told ["call"] (defScope s__law_told) := ⟨rfl, rfl, rfl, by decide +kernel, rfl, by decide +kernel, by decide +kernel⟩
abbrev s__law_great : Stmt := topS 31
abbrev N__law_great : List Str := []
theorem sc__law_great : FnScope N__law_great [] (defScope s__law_great) := ⟨rfl, rfl, rfl, by decide +kernel, rfl, by decide +kernel, by decide +kernel⟩
abbrev s__law_text : Stmt := topS 32
abbrev N__law_text : List Str := ["thing", "own"]
theorem sc__law_text : FnScope N__law_text ["thing"] (defScope s__law_text) := ⟨rfl, rfl, rfl, by decide +kernel, rfl, by decide +kernel, by decide +kernel⟩
abbrev s__law_digits : Stmt := topS 33
abbrev N__law_digits : List Str := ["text", "at", "end"]
theorem sc__law_digits : FnScope N__law_digits ["text", "at"] (defScope s__law_digits) := ⟨rfl, rfl, rfl, by decide +kernel, rfl, by decide +kernel, by decide +kernel⟩
abbrev s__law_read : Stmt := topS 34
abbrev N__law_read : List Str := ["text", "at", "deep", "mark", "digits", "begin", "own", "is_short", "odds", "one"]
theorem sc__law_read : FnScope N__law_read ["text", "at", "deep"] (defScope s__law_read) := ⟨rfl, rfl, rfl, by decide +kernel, rfl, by decide +kernel, by decide +kernel⟩
abbrev s__law_items : Stmt := topS 35
abbrev N__law_items : List Str := ["text", "at", "deep", "found", "step", "own"]
theorem sc__law_items : FnScope N__law_items ["text", "at", "deep"] (defScope s__law_items) := ⟨rfl, rfl, rfl, by decide +kernel, rfl, by decide +kernel, by decide +kernel⟩
abbrev s__law_leaf : Stmt := topS 36
abbrev N__law_leaf : List Str := ["cup", "sort", "spot"]
theorem sc__law_leaf : FnScope N__law_leaf ["cup"] (defScope s__law_leaf) := ⟨rfl, rfl, rfl, by decide +kernel, rfl, by decide +kernel, by decide +kernel⟩
abbrev s__law_thing : Stmt := topS 37
abbrev N__law_thing : List Str := ["cup", "found", "step"]
theorem sc__law_thing : FnScope N__law_thing ["cup"] (defScope s__law_thing) := ⟨rfl, rfl, rfl, by decide +kernel, rfl, by decide +kernel, by decide +kernel⟩
abbrev s__law_bent : Stmt := topS 38
abbrev N__law_bent : List Str := ["cup", "text", "at", "kind", "mark"]
theorem sc__law_bent : FnScope N__law_bent ["cup", "text"] (defScope s__law_bent) := ⟨rfl, rfl, rfl, by decide +kernel, rfl, by decide +kernel, by decide +kernel⟩
structure Txt (K : PySem.W.Frag) (mg : Str → Option Value) (a : Nat → Addr) (d : Nat → FuncData) : Prop where
  n_len : mg "len" = none
  n_str : mg "str" = none
  n_bool : mg "bool" = none
  n_tuple : mg "tuple" = none
  n_abs : mg "abs" = none
  n_int : mg "int" = none
  n_all : mg "all" = none
  n_zip : mg "zip" = none
  n_list : mg "list" = none
  n_isinstance : mg "isinstance" = none
  n_ord : mg "ord" = none
  n_range : mg "range" = none
  c_DEEP : ∃ t, mg "DEEP" = some (.int 20 t)
  c_SIGNS : ∃ t, mg "SIGNS" = some (.int 2000 t)
  c_LONG : ∃ t, mg "LONG" = some (.int 60000 t)
  c_MOST : ∃ t, mg "MOST" = some (.int MOSTv t)
  c_DIGITS : ∃ t, mg "DIGITS" = some (.str "0123456789" t)
  InvalidText : ExcK K mg "InvalidText" (a 2)
  InvalidSort : ExcK K mg "InvalidSort" (a 3)
  is_sign : DefK K mg "is_sign" s_is_sign ["own"] (a 11) (d 11)
  is_thing_in : DefK K mg "is_thing_in" s_is_thing_in ["value", "deep"] (a 12) (d 12)
  text_in : DefK K mg "text_in" s_text_in ["thing"] (a 13) (d 13)
  bad : DefK K mg "bad" s_bad [] (a 14) (d 14)
  digits_end : DefK K mg "digits_end" s_digits_end ["text", "at"] (a 15) (d 15)
  number_at : DefK K mg "number_at" s_number_at ["text", "at"] (a 16) (d 16)
  text_at : DefK K mg "text_at" s_text_at ["text", "at"] (a 17) (d 17)
  thing_at : DefK K mg "thing_at" s_thing_at ["text", "at", "deep"] (a 18) (d 18)
  thing_of_text : DefK K mg "thing_of_text" s_thing_of_text ["text"] (a 19) (d 19)
  need_thing : DefK K mg "need_thing" s_need_thing ["value"] (a 20) (d 20)
  is_thing : DefK K mg "is_thing" s_is_thing ["value"] (a 21) (d 21)
  thing_text : DefK K mg "thing_text" s_thing_text ["value"] (a 22) (d 22)
  read_thing : DefK K mg "read_thing" s_read_thing ["text"] (a 23) (d 23)
  _law_cup : DefK K mg "_law_cup" s__law_cup ["script"] (a 25) (d 25)
  _law_roll : DefK K mg "_law_roll" s__law_roll ["cup", "many"] (a 26) (d 26)
  _law_some : DefK K mg "_law_some" s__law_some ["cup", "things"] (a 27) (d 27)
  _law_sort : DefK K mg "_law_sort" s__law_sort ["value"] (a 28) (d 28)
  _law_like : DefK K mg "_law_like" s__law_like ["one", "other"] (a 29) (d 29)
  _law_told : DefK K mg "_law_told" s__law_told ["call"] (a 30) (d 30)
  _law_great : DefK K mg "_law_great" s__law_great [] (a 31) (d 31)
  _law_text : DefK K mg "_law_text" s__law_text ["thing"] (a 32) (d 32)
  _law_digits : DefK K mg "_law_digits" s__law_digits ["text", "at"] (a 33) (d 33)
  _law_read : DefK K mg "_law_read" s__law_read ["text", "at", "deep"] (a 34) (d 34)
  _law_items : DefK K mg "_law_items" s__law_items ["text", "at", "deep"] (a 35) (d 35)
  _law_leaf : DefK K mg "_law_leaf" s__law_leaf ["cup"] (a 36) (d 36)
  _law_thing : DefK K mg "_law_thing" s__law_thing ["cup"] (a 37) (d 37)
  _law_bent : DefK K mg "_law_bent" s__law_bent ["cup", "text"] (a 38) (d 38)
end K10
end
section
set_option maxRecDepth 100000
set_option maxHeartbeats 4000000
namespace K10
open PySem PySem.Spec PyProof.Rows L2 TLy TL NumText
/-! steps, one by one -/
local macro_rules | `(tactic| walk_at "ev") => `(tactic| first
  | exact ev_var rfl
  | exact ev_int
  | exact ev_str
  | exact ev_bl
  | exact ev_non
  | exact ev_ty
  | exact ea_nil
  | exact eo_none
  | exact r_add
  | exact r_sub
  | exact r_lt
  | exact r_le
  | exact r_gt
  | exact r_ge
  | exact r_eqI
  | exact r_neI
  | exact r_eqS
  | exact r_neS
  | exact r_leS
  | exact r_inSign
  | exact r_isN
  | exact r_notN
  | exact u_neg
  | exact c_intI
  | exact c_abs
  | exact c_ord
  | exact c_lenT
  | exact c_lenL
  | exact c_all
  | exact Nat.le_of_ble_eq_true rfl
  | exact c_tupL
  | exact c_lstL
  | exact c_lstT
  | exact u_slT
  | exact u_slL
  | exact tg_name
  | exact tgs_nil
  | ((with_reducible refine' ev_lenM ?_) <;> rfl)
  | ((with_reducible refine' ev_op ?_ ?_ ?_) <;> try walk_at "ev")
  | ((with_reducible refine' ev_un ?_ ?_) <;> try walk_at "ev")
  | ((with_reducible refine' ea_cons ?_ ?_) <;> try walk_at "ev")
  | ((with_reducible refine' eo_some ?_) <;> try walk_at "ev")
  | ((with_reducible refine' ev_cb ?_ ?_) <;> try walk_at "ev")
  | ((with_reducible refine' ev_sl ?_ ?_ ?_ ?_) <;> try walk_at "ev")
  | ((with_reducible refine' ev_chain ?_ ?_ ?_ ?_ ?_) <;> try walk_at "ev")
  | ((with_reducible refine' eb_test ?_) <;> try walk_at "ev")
  | ((with_reducible refine' eb_B ?_) <;> try walk_at "ev")
  | ((with_reducible refine' eb_not ?_) <;> try walk_at "ev")
  | ((with_reducible refine' eb_andP ?_ ?_) <;> try walk_at "ev")
  | ((with_reducible refine' eb_orP ?_ ?_) <;> try walk_at "ev")
  | ((with_reducible refine' ev_andP ?_ ?_) <;> try walk_at "ev")
  | ((with_reducible refine' ev_orP ?_ ?_) <;> try walk_at "ev")
  | ((with_reducible refine' ev_notP ?_) <;> try walk_at "ev")
  | ((with_reducible refine' ev_tup ?_ ?_) <;> try walk_at "ev")
  | ((with_reducible refine' ev_lst ?_ ?_) <;> try walk_at "ev")
  | ((with_reducible refine' ev_call ?_ ?_) <;> first | assumption | walk_at "ev" | skip)
  | ((with_reducible refine' tg_tup ?_ ?_) <;> try walk_at "ev")
  | ((with_reducible refine' tgs_cons ?_ ?_) <;> try walk_at "ev")
  | (refine' r_mul ?_)
  | (refine' r_modN ?_)
  | (refine' r_fdivN ?_)
  | (refine' r_pow ?_)
  | (refine' r_addS ?_)
  | (refine' r_catT ?_)
  | (refine' r_catL ?_)
  | (refine' r_ixT ?_)
  | (refine' r_ixL ?_)
  | (refine' r_ixS ?_ ?_ <;> first | exact len_sz (by omega) | exact at_get _ _ (by assumption) | skip)
  | (refine' u_slS ?_ <;> first | exact len_sz (by omega) | skip)
  | (refine' c_lenS ?_ <;> first | exact len_sz (by omega) | skip)
  | (refine' c_strI ?_)
  | (refine' c_intS ?_ ?_)
  | with_reducible exact isi_NB
  | with_reducible exact isi_NI
  | with_reducible exact isi_NS
  | with_reducible exact isi_NT
  | with_reducible exact isi_NL
  | with_reducible exact isi_BB
  | with_reducible exact isi_BI
  | with_reducible exact isi_BS
  | with_reducible exact isi_BT
  | with_reducible exact isi_BL
  | with_reducible exact isi_IB
  | with_reducible exact isi_II
  | with_reducible exact isi_IS
  | with_reducible exact isi_IT
  | with_reducible exact isi_IL
  | with_reducible exact isi_SB
  | with_reducible exact isi_SI
  | with_reducible exact isi_SS
  | with_reducible exact isi_ST
  | with_reducible exact isi_SL
  | with_reducible exact isi_TB
  | with_reducible exact isi_TI
  | with_reducible exact isi_TS
  | with_reducible exact isi_TT
  | with_reducible exact isi_TL
  | with_reducible exact isi_LB
  | with_reducible exact isi_LI
  | with_reducible exact isi_LS
  | with_reducible exact isi_LT
  | with_reducible exact isi_LL
  | (refine' r_eqD ?_ ?_ ?_ ?_)
  | (refine' r_neD ?_ ?_ ?_ ?_)
  | (intro _h; walk_at "ev"))

section
variable {P : Program} {w : World} {K : PySem.W.Frag} {mg : Str → Option Value} {base : Heap} {a : Nat → Addr} {d : Nat → FuncData}
/-! ### is_sign -/
def R_is_sign : List PV → PV → Prop := fun xs y => ∃ c : Nat, xs = [.str (S [c])] ∧ y = .bl (signOk c)
theorem ok_is_sign (T : Txt K mg a d) : FnOk P w K mg base CX0 1 (a 11) (d 11) ["own"] (spOf R_is_sign) := by
  refine ok_pure T.is_sign.F sc_is_sign (fun xs y h => by obtain ⟨c, rfl, _⟩ := h; rfl) (by decide) (fun cdv A outer s H E hr xs y h => ?_)
  obtain ⟨c, rfl, rfl⟩ := h
  refine ⟨_, (pss_one (ps_ret (pe_or (pe_cmpR op_eq (pv 0) pe_str (nomark _)) (pe_one (pe_and (pe_chain op_le_str op_le_str pe_str (pv 0) pe_str) (pe_one (pe_cmpR op_ne (pe_callB call_ord (by rfl) T.n_ord (by decide +kernel) (pa_cons (pv 0) pa_nil)) pe_int (nomark _)))))))), ?_⟩
  show Exec E _ [some (.val (.str (S [c])))] _
  refine' ex_ret (x := .bl (signOk c)) (ev_is ?gh ?ge) rfl
  case gh => walk_at "ev"
  case ge =>
    rw [q_S (z := Str.ofString "\n") (m := [10]) rfl, show (Str.ofString " ").cps.toList = [32] from rfl, show (Str.ofString "~").cps.toList = [126] from rfl]
    show PV.bl (decide ([c] = [10]) || (!decide ([c] < [32]) && !decide ([126] < [c])) && !decide ((c : Int) = 37)) = PV.bl (signOk c)
    unfold signOk
    rw [lt1, lt1]
    congr 1
    rw [Bool.eq_iff_iff]
    simp only [Bool.or_eq_true, Bool.and_eq_true, Bool.not_eq_true', decide_eq_true_eq, decide_eq_false_iff_not, beq_iff_eq, bne_iff_ne, ne_eq, List.cons.injEq, and_true]
    omega
/-! ### bad -/
def R_bad (C : Addr) : List PV → Sum PV Er → Prop := fun xs y => xs = [] ∧ y = .inr ⟨C, none⟩
theorem ok_bad (T : Txt K mg a d) : FnOk P w K mg base (L2.CX P w) 1 (a 14) (d 14) [] (spOfE (R_bad (a 2))) := by
  refine ok_err T.bad.F sc_bad (fun xs y h => by obtain ⟨rfl, _⟩ := h; rfl) (by decide) (fun cdv A outer s H E hr xs y h => ?_)
  obtain ⟨rfl, rfl⟩ := h
  refine ⟨_, (pss_one (ps_raise rfl (takes_of rfl rfl rfl rfl) (pmk_own PySem.F.excBase_ValueError T.InvalidText.x T.InvalidText.g T.InvalidText.k (raises_own T.InvalidText.b T.InvalidText.t) rfl))), ?_⟩
  exact ex_raise rfl
/-- calling bad() -/
theorem ee_bad {C : Addr} {E : XK} {τ : TEnv} : EvE E (tCall (spOfE (R_bad C)) [] E tNil) τ ⟨C, none⟩ := ee_call ea_nil (spEe ⟨rfl, rfl⟩)
/-! ### digits_end -/
theorem dig_in (c : Nat) : decide (c ∈ (Str.ofString "0123456789").cps.toList) = dig c := by
  show decide (c ∈ [48, 49, 50, 51, 52, 53, 54, 55, 56, 57]) = dig c
  rw [Bool.eq_iff_iff, decide_eq_true_eq, dig_iff]
  simp
  omega
def R_digits_end : List PV → PV → Prop := fun xs y => ∃ (t : List Nat) (i : Nat), xs = [.str (S t), .int i] ∧ t.length ≤ 100000 ∧ y = .int (dend t i)
theorem ok_digits_end (T : Txt K mg a d) : FnOk P w K mg base CX0 1 (a 15) (d 15) ["text", "at"] (spOf R_digits_end) := by
  refine ok_pure T.digits_end.F sc_digits_end (fun xs y h => by obtain ⟨t, i, rfl, _⟩ := h; rfl) (by decide) (fun cdv A outer s H E hr xs y h => ?_)
  obtain ⟨t, i, rfl, hl, rfl⟩ := h
  obtain ⟨_, c_DIGITS⟩ := T.c_DIGITS
  refine ⟨_, (pss_cons (ps_while PassesOwn.never (PW.pt (pw_and (pt_cmpR op_ne (pe_slice sl_str (pv 0) (po_some (pv 1)) (po_some (pe_op op_add (pv 1) pe_int))) pe_str (nomark _)) (pw_and1 (pt_cmpR op_in_sign (pe_ix ix_str (pv 0) (pv 1) (fun _ _ => rfl)) (pe_glob (v := .str "0123456789") (by rfl) c_DIGITS ⟨_, rfl⟩) (by rfl))))) (pss_one (ps_set (i := 1) sc_digits_end.nd rfl (by first | exact Or.inl rfl | exact Or.inr rfl) (pe_op op_add (pv 1) pe_int))))
      (pss_one (ps_ret (pv 1)))), ?_⟩
  show Exec E _ [some (.val (.str (S t))), some (.val (.int i))] _
  refine ex_seq (fun τ' => τ' = [some (.val (.str (S t))), some (.val (.int (dend t i)))]) (ex_while (fun m τ' => ∃ j : Nat, dend t j = dend t i ∧ τ' = [some (.val (.str (S t))), some (.val (.int j))] ∧ m = t.length - j) (t.length - i) ⟨i, rfl, rfl, rfl⟩ ?_) ?_
  · rintro m _ ⟨j, ej, rfl, rfl⟩
    cases h : t[j]? with
    | none =>
      have hj : t.length ≤ j := List.getElem?_eq_none_iff.mp h
      refine' ⟨false, _, eb_and (b := false) (eb_is ?h1 ?e1) (fun z => Bool.noConfusion z) (fun _ => ⟨rfl, rfl⟩), fun z => Bool.noConfusion z, fun _ => ?_⟩
      case h1 => walk_at "ev"
      case e1 => rw [cutS_sg, q_sg0 (z := Str.ofString "") rfl, decide_eq_true hj]; rfl
      · show _ = _
        rw [← ej, dend_end hj]
    | some c =>
      have hj : j < t.length := (List.getElem?_eq_some_iff.mp h).1
      refine' ⟨dig c, _, eb_and (b := true) (eb_is ?h1 ?e1) (fun _ => eb_is ?h2 ?e2) (fun z => Bool.noConfusion z), fun z => ?_, fun z => ?_⟩
      case h1 => walk_at "ev"
      case e1 => rw [cutS_sg, q_sg0 (z := Str.ofString "") rfl, decide_eq_false (by omega)]; rfl
      case h2 => walk_at "ev"
      case e2 => exact dig_in c
      · refine ex_set (by walk_at "ev") ⟨t.length - (j + 1), by omega, j + 1, ?_, ?_, rfl⟩
        · rw [← ej, dend_step h z]
        · show _ = ([some (.val (.str (S t))), some (.val (.int ((j + 1 : Nat) : Int)))] : TEnv)
          rfl
      · show _ = _
        rw [← ej, dend_stop h z]
  · rintro τ' rfl
    exact ex_ret (ev_var rfl) rfl
/-! ### number_at -/
def res {α : Type} (C : Addr) (f : α → PV) : Option α → Sum PV Er
  | some x => .inl (f x)
  | none => .inr ⟨C, none⟩
def R_number_at (C : Addr) : List PV → Sum PV Er → Prop := fun xs y => ∃ (t : List Nat) (i : Nat), xs = [.str (S t), .int i] ∧ t.length ≤ 100000 ∧ y = res C (fun p => .tup [.int p.1, .int (p.2 : Nat)]) (numAt t i)
theorem ok_number_at (T : Txt K mg a d) : FnOk P w K mg base (L2.CX P w) 2 (a 16) (d 16) ["text", "at"] (spOfE (R_number_at (a 2))) := by
  refine ok_err T.number_at.F sc_number_at (fun xs y h => by obtain ⟨t, i, rfl, _⟩ := h; rfl) (by decide) (fun cdv A outer s H E hr xs y h => ?_)
  obtain ⟨t, i, rfl, hl, rfl⟩ := h
  refine ⟨_, (pss_cons (ps_set (i := 2) sc_number_at.nd rfl (by first | exact Or.inl rfl | exact Or.inr rfl) (pe_ifExp (pt_cmpR op_eq (pe_slice sl_str (pv 0) (po_some (pv 1)) (po_some (pe_op op_add (pv 1) pe_int))) pe_str (nomark _)) (pe_op op_add (pv 1) pe_int) (pv 1)))
      (pss_cons (ps_set (i := 3) sc_number_at.nd rfl (by first | exact Or.inl rfl | exact Or.inr rfl) (pe_call (ok_digits_end T) (hr.mono (by first | decide | omega)) (by rfl) T.digits_end.g T.digits_end.F.kp T.digits_end.b .nil pass0 (pa_cons (pv 0) (pa_cons (pv 2) pa_nil))))
      (pss_cons (ps_if (pt_not (pt_chain op_lt op_le pe_int (pe_op op_sub (pv 3) (pv 2)) pe_int)) (pss_one (ps_expr (pe_call0 (ok_bad T) (hr.mono (by first | decide | omega)) (by rfl) T.bad.g T.bad.F.kp T.bad.b .nil (passes_call (takes_of rfl rfl rfl rfl) (fun _ _ _ _ z => z))))) pss_nil)
      (pss_one (ps_ret (pe_tup (pa_cons (pe_callTy call_int_str (by rfl) T.n_int (by decide +kernel) (pa_cons (pe_slice sl_str (pv 0) (po_some (pv 1)) (po_some (pv 3))) pa_nil)) (pa_cons (pv 3) pa_nil)))))))), ?_⟩
  show Exec E _ [some (.val (.str (S t))), some (.val (.int i)), none, none] _
  obtain ⟨b, hb⟩ : ∃ b : Nat, b = if t[i]? = some 45 then i + 1 else i := ⟨_, rfl⟩
  obtain ⟨ds, hds⟩ : ∃ ds, ds = (t.drop b).takeWhile dig := ⟨_, rfl⟩
  have he : dend t b = b + ds.length := by rw [hds]; rfl
  have hn : numAt t i = if ds.length = 0 ∨ 200 < ds.length then none else some (if t[i]? = some 45 then -((digitsVal ds : Nat) : Int) else ((digitsVal ds : Nat) : Int), b + ds.length) := by
    unfold numAt
    simp only [← hb, ← hds]
  refine ex_seq1 (ex_set (x := .int b) (τ1 := [some (.val (.str (S t))), some (.val (.int i)), none, none]) ?_ rfl) ?_
  · refine' ev_if (b := decide (t[i]? = some 45)) (eb_is ?gh ?ge) (fun z => ?_) (fun z => ?_)
    case gh => walk_at "ev"
    case ge => rw [cutS_sg]; exact q_sg 45 rfl
    · rw [hb, if_pos (of_decide_eq_true z)]
      refine' ev_is (x := .int ((i : Int) + 1)) ?_ rfl
      walk_at "ev"
    · rw [hb, if_neg (of_decide_eq_false z)]
      walk_at "ev"
  refine ex_seq1 (ex_set (x := .int (dend t b)) (τ1 := [some (.val (.str (S t))), some (.val (.int i)), some (.val (.int b)), none]) (ev_call (by walk_at "ev") (spP ⟨t, b, rfl, hl, rfl⟩)) rfl) ?_
  show Exec E _ [some (.val (.str (S t))), some (.val (.int i)), some (.val (.int b)), some (.val (.int (dend t b)))] _
  rw [he]
  refine' ex_guard (b := !(decide ((0 : Int) < ((b + ds.length : Nat) : Int) - b) && decide (((b + ds.length : Nat) : Int) - b ≤ 200))) ?ht (fun z M => ?_) (fun z => ?_)
  case ht => walk_at "ev"
  · refine ex_dropE ee_bad ?_
    show res _ _ _ = _
    rw [hn, if_pos ?_]
    · rfl
    · simp at z
      omega
  · have hc : ¬ (ds.length = 0 ∨ 200 < ds.length) := by
      simp at z
      omega
    rw [if_neg hc] at hn
    have hsl : (t.drop b).take ds.length = ds := by rw [hds, take_tw]
    have hall : AllDigits ds := fun c q => dig_iff.mp (tw_all (t.drop b) dig c (by rw [← hds]; exact q))
    have h0 : ds ≠ [] := fun q => hc (.inl (by rw [q]; rfl))
    have hi : intText? (cutS (S t) (some (i : Int)) (some ((b + ds.length : Nat) : Int))) = some (if t[i]? = some 45 then -((digitsVal ds : Nat) : Int) else ((digitsVal ds : Nat) : Int)) := by
      rw [cutS_nat]
      by_cases q : t[i]? = some 45
      · rw [if_pos q] at hb ⊢
        subst hb
        rw [drop_of_get q, show i + 1 + ds.length - i = ds.length + 1 by omega, List.take_succ_cons, hsl]
        exact intText_neg rfl hall h0 (by rw [S_len, List.length_cons]; omega)
      · rw [if_neg q] at hb ⊢
        subst hb
        rw [Nat.add_sub_cancel_left, hsl]
        exact intText_digits hall h0 (by rw [S_len]; omega)
    have hlen : (cutS (S t) (some (i : Int)) (some ((b + ds.length : Nat) : Int))).length ≤ 640 := by
      rw [cutS_nat, S_len, List.length_take]
      have : b ≤ i + 1 := by rw [hb]; split <;> omega
      omega
    refine' ex_ret (x := .tup [.int (if t[i]? = some 45 then -((digitsVal ds : Nat) : Int) else ((digitsVal ds : Nat) : Int)), .int ((b + ds.length : Nat) : Int)]) ?gh ?_
    case gh => walk_at "ev" <;> first | exact hi | exact hlen | skip
    · show res _ _ _ = _
      rw [hn]
      rfl
/-! ### text_at -/
def R_text_at (C : Addr) : List PV → Sum PV Er → Prop := fun xs y => ∃ (t : List Nat) (i : Nat), xs = [.str (S t), .int i] ∧ t.length ≤ 100000 ∧ y = res C (fun p => .tup [.str (S p.1), .int (p.2 : Nat)]) (strAt t i)
theorem ok_text_at (T : Txt K mg a d) : FnOk P w K mg base (L2.CX P w) 3 (a 17) (d 17) ["text", "at"] (spOfE (R_text_at (a 2))) := by
  refine ok_err T.text_at.F sc_text_at (fun xs y h => by obtain ⟨t, i, rfl, _⟩ := h; rfl) (by decide) (fun cdv A outer s H E hr xs y h => ?_)
  obtain ⟨t, i, rfl, hl, rfl⟩ := h
  obtain ⟨_, c_SIGNS⟩ := T.c_SIGNS
  refine ⟨_, (pss_cons (ps_asg (pe_call (ok_number_at T) (hr.mono (by first | decide | omega)) (by rfl) T.number_at.g T.number_at.F.kp T.number_at.b .nil (passes_call (takes_of rfl rfl rfl rfl) (fun _ _ _ _ z => z)) (pa_cons (pv 0) (pa_cons (pv 1) pa_nil))) (pg_tup (by rfl) (pgs_cons (pg_name (i := 2) sc_text_at.nd rfl (by first | exact Or.inl rfl | exact Or.inr rfl)) (pgs_cons (pg_name (i := 1) sc_text_at.nd rfl (by first | exact Or.inl rfl | exact Or.inr rfl)) pgs_nil))))
      (pss_cons (ps_if (PW.pt (pw_or (pt_cmpR op_ne (pe_slice sl_str (pv 0) (po_some (pv 1)) (po_some (pe_op op_add (pv 1) pe_int))) pe_str (nomark _)) (pw_or (pt_not (pt_chain op_le op_le pe_int (pv 2) (pe_glob (v := .int 2000) (by rfl) c_SIGNS ⟨_, rfl⟩))) (pw_or1 (pt_cmpR op_gt (pe_op op_add (pe_op op_add (pv 1) pe_int) (pv 2)) (pe_callB call_len (by rfl) T.n_len (by decide +kernel) (pa_cons (pv 0) pa_nil)) (nomark _)))))) (pss_one (ps_expr (pe_call0 (ok_bad T) (hr.mono (by first | decide | omega)) (by rfl) T.bad.g T.bad.F.kp T.bad.b .nil (passes_call (takes_of rfl rfl rfl rfl) (fun _ _ _ _ z => z))))) pss_nil)
      (pss_one (ps_ret (pe_tup (pa_cons (pe_slice sl_str (pv 0) (po_some (pe_op op_add (pv 1) pe_int)) (po_some (pe_op op_add (pe_op op_add (pv 1) pe_int) (pv 2)))) (pa_cons (pe_op op_add (pe_op op_add (pv 1) pe_int) (pv 2)) pa_nil))))))), ?_⟩
  show Exec E _ [some (.val (.str (S t))), some (.val (.int i)), none] _
  cases hn : numAt t i with
  | none =>
    refine' ex_seq (fun _ => False) (ex_asgE (ee_call (τ1 := [some (.val (.str (S t))), some (.val (.int i)), none]) ?_ (spEe (x := ⟨a 2, none⟩) ⟨t, i, rfl, hl, by rw [hn]; rfl⟩)) ?_) (fun _ z => z.elim)
    · walk_at "ev"
    · show res _ _ _ = _
      unfold strAt
      rw [hn]
      rfl
  | some p =>
    obtain ⟨m, j⟩ := p
    have hs : strAt t i = if t[j]? = some 58 ∧ 0 ≤ m ∧ m ≤ 2000 ∧ (j : Int) + 1 + m ≤ t.length then some ((t.drop (j + 1)).take m.toNat, j + 1 + m.toNat) else none := by
      unfold strAt
      rw [hn]
    refine' ex_seq1 (ex_asg (x := .tup [.int m, .int j]) (τ1 := [some (.val (.str (S t))), some (.val (.int i)), none]) (τ2 := [some (.val (.str (S t))), some (.val (.int j)), some (.val (.int m))]) (ev_call ?_ (spEv ⟨t, i, rfl, hl, by rw [hn]; rfl⟩)) ?_ rfl) ?_
    · walk_at "ev"
    · exact tg_tup (tgs_cons tg_name (tgs_cons tg_name tgs_nil)) rfl
    refine' ex_guard (b := !decide (t[j]? = some 58) || (!(decide ((0 : Int) ≤ m) && decide (m ≤ 2000)) || decide ((t.length : Int) < (j : Int) + 1 + m))) ?ht (fun z M => ?_) (fun z => ?_)
    case ht =>
      refine' eb_orP (eb_is ?h1 ?e1) (fun _ => eb_orP ?h2 (fun _ => eb_is ?h3 ?e3))
      case h1 => walk_at "ev"
      case e1 =>
        rw [cutS_sg]
        exact congrArg (!·) (q_sg 58 rfl)
      case h2 => walk_at "ev"
      case h3 => walk_at "ev"
      case e3 => rw [S_len]
    · refine ex_dropE ee_bad ?_
      show res _ _ _ = _
      rw [hs, if_neg]
      · rfl
      · intro ⟨q1, q2, q3, q4⟩
        simp [q1, q2, q3] at z
        omega
    · have hc : t[j]? = some 58 ∧ 0 ≤ m ∧ m ≤ 2000 ∧ (j : Int) + 1 + m ≤ t.length := by
        simp only [Bool.or_eq_false_iff, Bool.not_eq_false', Bool.and_eq_true, decide_eq_true_eq, decide_eq_false_iff_not] at z
        exact ⟨z.1, z.2.1.1, z.2.1.2, by omega⟩
      rw [if_pos hc] at hs
      obtain ⟨k, rfl⟩ := Int.eq_ofNat_of_zero_le hc.2.1
      have e1 : (j : Int) + 1 + (k : Int) = ((j + 1 + k : Nat) : Int) := by omega
      refine' ex_ret (ev_is ?gh ?ge) ?_
      case gh => walk_at "ev" <;> first | decide | skip
      case ge =>
        show _ = PV.tup [.str (S ((t.drop (j + 1)).take k)), .int ((j + 1 + k : Nat) : Int)]
        rw [e1, show (j : Int) + 1 = ((j + 1 : Nat) : Int) by omega, cutS_nat, Nat.add_sub_cancel_left]
      · show res _ _ _ = _
        rw [hs]
        rfl
end
end K10
end
section
set_option maxRecDepth 100000
set_option maxHeartbeats 4000000
namespace K10
open PySem PySem.Spec PyProof.Rows L2 TLy TL NumText
/-! steps, one by one -/
local macro_rules | `(tactic| walk_at "ev") => `(tactic| first
  | exact ev_var rfl
  | exact ev_int
  | exact ev_str
  | exact ev_bl
  | exact ev_non
  | exact ev_ty
  | exact ea_nil
  | exact eo_none
  | exact r_add
  | exact r_sub
  | exact r_lt
  | exact r_le
  | exact r_gt
  | exact r_ge
  | exact r_eqI
  | exact r_neI
  | exact r_eqS
  | exact r_neS
  | exact r_leS
  | exact r_inSign
  | exact r_isN
  | exact r_notN
  | exact u_neg
  | exact c_intI
  | exact c_abs
  | exact c_ord
  | exact c_lenT
  | exact c_lenL
  | exact c_all
  | exact Nat.le_of_ble_eq_true rfl
  | exact c_tupL
  | exact c_lstL
  | exact c_lstT
  | exact u_slT
  | exact u_slL
  | exact tg_name
  | exact tgs_nil
  | ((with_reducible refine' ev_lenM ?_) <;> rfl)
  | ((with_reducible refine' ev_op ?_ ?_ ?_) <;> try walk_at "ev")
  | ((with_reducible refine' ev_un ?_ ?_) <;> try walk_at "ev")
  | ((with_reducible refine' ea_cons ?_ ?_) <;> try walk_at "ev")
  | ((with_reducible refine' eo_some ?_) <;> try walk_at "ev")
  | ((with_reducible refine' ev_cb ?_ ?_) <;> try walk_at "ev")
  | ((with_reducible refine' ev_sl ?_ ?_ ?_ ?_) <;> try walk_at "ev")
  | ((with_reducible refine' ev_chain ?_ ?_ ?_ ?_ ?_) <;> try walk_at "ev")
  | ((with_reducible refine' eb_test ?_) <;> try walk_at "ev")
  | ((with_reducible refine' eb_B ?_) <;> try walk_at "ev")
  | ((with_reducible refine' eb_not ?_) <;> try walk_at "ev")
  | ((with_reducible refine' eb_andP ?_ ?_) <;> try walk_at "ev")
  | ((with_reducible refine' eb_orP ?_ ?_) <;> try walk_at "ev")
  | ((with_reducible refine' ev_andP ?_ ?_) <;> try walk_at "ev")
  | ((with_reducible refine' ev_orP ?_ ?_) <;> try walk_at "ev")
  | ((with_reducible refine' ev_notP ?_) <;> try walk_at "ev")
  | ((with_reducible refine' ev_tup ?_ ?_) <;> try walk_at "ev")
  | ((with_reducible refine' ev_lst ?_ ?_) <;> try walk_at "ev")
  | ((with_reducible refine' ev_call ?_ ?_) <;> first | assumption | walk_at "ev" | skip)
  | ((with_reducible refine' tg_tup ?_ ?_) <;> try walk_at "ev")
  | ((with_reducible refine' tgs_cons ?_ ?_) <;> try walk_at "ev")
  | (refine' r_mul ?_)
  | (refine' r_modN ?_)
  | (refine' r_fdivN ?_)
  | (refine' r_pow ?_)
  | (refine' r_addS ?_)
  | (refine' r_catT ?_)
  | (refine' r_catL ?_)
  | (refine' r_ixT ?_)
  | (refine' r_ixL ?_)
  | (refine' r_ixS ?_ ?_ <;> first | exact len_sz (by omega) | exact at_get _ _ (by assumption) | skip)
  | (refine' u_slS ?_ <;> first | exact len_sz (by omega) | skip)
  | (refine' c_lenS ?_ <;> first | exact len_sz (by omega) | skip)
  | (refine' c_strI ?_)
  | (refine' c_intS ?_ ?_)
  | with_reducible exact isi_NB
  | with_reducible exact isi_NI
  | with_reducible exact isi_NS
  | with_reducible exact isi_NT
  | with_reducible exact isi_NL
  | with_reducible exact isi_BB
  | with_reducible exact isi_BI
  | with_reducible exact isi_BS
  | with_reducible exact isi_BT
  | with_reducible exact isi_BL
  | with_reducible exact isi_IB
  | with_reducible exact isi_II
  | with_reducible exact isi_IS
  | with_reducible exact isi_IT
  | with_reducible exact isi_IL
  | with_reducible exact isi_SB
  | with_reducible exact isi_SI
  | with_reducible exact isi_SS
  | with_reducible exact isi_ST
  | with_reducible exact isi_SL
  | with_reducible exact isi_TB
  | with_reducible exact isi_TI
  | with_reducible exact isi_TS
  | with_reducible exact isi_TT
  | with_reducible exact isi_TL
  | with_reducible exact isi_LB
  | with_reducible exact isi_LI
  | with_reducible exact isi_LS
  | with_reducible exact isi_LT
  | with_reducible exact isi_LL
  | (refine' r_eqD ?_ ?_ ?_ ?_)
  | (refine' r_neD ?_ ?_ ?_ ?_)
  | (intro _h; walk_at "ev"))

section
variable {P : Program} {w : World} {K : PySem.W.Frag} {mg : Str → Option Value} {base : Heap} {a : Nat → Addr} {d : Nat → FuncData}
/-! ### thing_at -/
def R_thing_at (C : Addr) (n : Nat) : List PV → Sum PV Er → Prop := fun xs y => ∃ (t : List Nat) (i : Nat), xs = [.str (S t), .int i, .int n] ∧ t.length ≤ 100000 ∧ y = res C (fun p => .tup [p.1, .int (p.2 : Nat)]) (tAt t n i)
def R_prev (C : Addr) : Nat → List PV → Sum PV Er → Prop
  | 0 => fun _ _ => False
  | n + 1 => R_thing_at C n
theorem ok_thing_at1 (T : Txt K mg a d) (n : Nat) (ih_thing_at : FnOk P w K mg base (L2.CX P w) (3 + n) (a 18) (d 18) ["text", "at", "deep"] (spOfE (R_prev (a 2) n))) :
    FnOk P w K mg base (L2.CX P w) (4 + n) (a 18) (d 18) ["text", "at", "deep"] (spOfE (R_thing_at (a 2) n)) := by
  rw [show 4 + n = (3 + n) + 1 by omega]
  refine ok_err T.thing_at.F sc_thing_at (fun xs y h => by obtain ⟨t, i, rfl, _⟩ := h; rfl) (by decide) (fun cdv A outer s H E hr xs y h => ?_)
  obtain ⟨t, i, rfl, hl, rfl⟩ := h
  refine ⟨_, (pss_cons (ps_set (i := 3) sc_thing_at.nd rfl (by first | exact Or.inl rfl | exact Or.inr rfl) (pe_slice sl_str (pv 0) (po_some (pv 1)) (po_some (pe_op op_add (pv 1) pe_int))))
      (pss_cons (ps_if (pt_cmpR op_eq (pv 3) pe_str (nomark _)) (pss_one (ps_ret (pe_tup (pa_cons pe_non (pa_cons (pe_op op_add (pv 1) pe_int) pa_nil))))) pss_nil)
      (pss_cons (ps_if (pt_cmpR op_eq (pv 3) pe_str (nomark _)) (pss_one (ps_ret (pe_call (ok_text_at T) (hr.mono (by first | decide | omega)) (by rfl) T.text_at.g T.text_at.F.kp T.text_at.b .nil (passes_call (takes_of rfl rfl rfl rfl) (fun _ _ _ _ z => z)) (pa_cons (pv 0) (pa_cons (pe_op op_add (pv 1) pe_int) pa_nil))))) pss_nil)
      (pss_cons (ps_if (pt_cmpR op_ne (pv 3) pe_str (nomark _)) (pss_one (ps_ret (pe_call (ok_number_at T) (hr.mono (by first | decide | omega)) (by rfl) T.number_at.g T.number_at.F.kp T.number_at.b .nil (passes_call (takes_of rfl rfl rfl rfl) (fun _ _ _ _ z => z)) (pa_cons (pv 0) (pa_cons (pv 1) pa_nil))))) pss_nil)
      (pss_cons (ps_if (pt_cmpR op_eq (pv 2) pe_int (nomark _)) (pss_one (ps_expr (pe_call0 (ok_bad T) (hr.mono (by first | decide | omega)) (by rfl) T.bad.g T.bad.F.kp T.bad.b .nil (passes_call (takes_of rfl rfl rfl rfl) (fun _ _ _ _ z => z))))) pss_nil)
      (pss_cons (ps_if (pt_cmpR op_eq (pe_slice sl_str (pv 0) (po_some (pe_op op_add (pv 1) pe_int)) (po_some (pe_op op_add (pv 1) pe_int))) pe_str (nomark _)) (pss_one (ps_ret (pe_tup (pa_cons (pe_tup pa_nil) (pa_cons (pe_op op_add (pv 1) pe_int) pa_nil))))) pss_nil)
      (pss_cons (ps_par (i := 4) (j := 5) (by rfl) sc_thing_at.nd rfl rfl (by decide) rfl rfl (pa_cons (pe_lst pa_nil) (pa_cons pe_str pa_nil)) (by rfl))
      (pss_cons (ps_while (passes_of rfl) (pt_cmpR op_eq (pv 5) pe_str (nomark _)) (pss_cons (ps_asg (pe_call ih_thing_at (hr.mono (by first | decide | omega)) (by rfl) T.thing_at.g T.thing_at.F.kp T.thing_at.b .nil (passes_call (takes_of rfl rfl rfl rfl) (fun _ _ _ _ z => z)) (pa_cons (pv 0) (pa_cons (pe_op op_add (pv 1) pe_int) (pa_cons (pe_op op_sub (pv 2) pe_int) pa_nil)))) (pg_tup (by rfl) (pgs_cons (pg_name (i := 6) sc_thing_at.nd rfl (by first | exact Or.inl rfl | exact Or.inr rfl)) (pgs_cons (pg_name (i := 1) sc_thing_at.nd rfl (by first | exact Or.inl rfl | exact Or.inr rfl)) pgs_nil))))
      (pss_cons (ps_expr (pe_bm PySem.F.plainAttrs_list PySem.F.slot_list_append PySem.F.type_list_append mt_append (pv 4) (pa_cons (pv 6) pa_nil)))
      (pss_one (ps_set (i := 5) sc_thing_at.nd rfl (by first | exact Or.inl rfl | exact Or.inr rfl) (pe_slice sl_str (pv 0) (po_some (pv 1)) (po_some (pe_op op_add (pv 1) pe_int))))))))
      (pss_cons (ps_if (pt_cmpR op_ne (pv 5) pe_str (nomark _)) (pss_one (ps_expr (pe_call0 (ok_bad T) (hr.mono (by first | decide | omega)) (by rfl) T.bad.g T.bad.F.kp T.bad.b .nil (passes_call (takes_of rfl rfl rfl rfl) (fun _ _ _ _ z => z))))) pss_nil)
      (pss_one (ps_ret (pe_tup (pa_cons (pe_callTy call_tuple_of (by rfl) T.n_tuple (by decide +kernel) (pa_cons (pv 4) pa_nil)) (pa_cons (pe_op op_add (pv 1) pe_int) pa_nil)))))))))))))), ?_⟩
  show Exec E _ [some (.val (.str (S t))), some (.val (.int i)), some (.val (.int n)), none, none, none, none] _
  refine' ex_seq1 (ex_set (x := .str (S (sg t i))) (τ1 := [some (.val (.str (S t))), some (.val (.int i)), some (.val (.int n)), none, none, none, none]) (ev_is ?gh ?ge) rfl) ?_
  case gh => walk_at "ev"
  case ge => rw [cutS_sg]
  show Exec E _ [some (.val (.str (S t))), some (.val (.int i)), some (.val (.int n)), some (.val (.str (S (sg t i)))), none, none, none] _
  -- the node, whatever a tuple is
  obtain ⟨tup, htup⟩ : ∃ tup, tAt t n = tNode t tup ∧ tup i = (match n with | 0 => none | m + 1 => if t[i + 1]? = some 62 then some (.tup [], i + 2) else rLoop (tAt t m) t (t.length + 1) (i + 1) []) := by
    cases n with
    | zero => exact ⟨fun _ => none, rfl, rfl⟩
    | succ m => exact ⟨_, rfl, rfl⟩
  have hnode : tAt t n i = if t[i]? = some 63 then some (.non, i + 1) else if t[i]? = some 61 then (strAt t (i + 1)).map fun p => (.str (S p.1), p.2) else if t[i]? = some 60 then tup i else (numAt t i).map fun p => (.int p.1, p.2) := by rw [htup.1]; rfl
  refine' ex_guard (b := decide (t[i]? = some 63)) (eb_is ?gh ?ge) (fun z M => ?_) (fun z => ?_)
  case gh => walk_at "ev"
  case ge => exact q_sg 63 rfl
  · refine' ex_ret (x := .tup [.non, .int ((i : Int) + 1)]) ?gh ?_
    case gh => walk_at "ev"
    · show res _ _ _ = _
      rw [hnode, if_pos (of_decide_eq_true z)]
      rfl
  rw [if_neg (of_decide_eq_false z)] at hnode
  refine' ex_guard (b := decide (t[i]? = some 61)) (eb_is ?gh ?ge) (fun z M => ?_) (fun z => ?_)
  case gh => walk_at "ev"
  case ge => exact q_sg 61 rfl
  · rw [if_pos (of_decide_eq_true z)] at hnode
    cases hs : strAt t (i + 1) with
    | none =>
      refine' ex_retE (ee_call ?gh (spEe (x := ⟨a 2, none⟩) ⟨t, i + 1, rfl, hl, by rw [hs]; rfl⟩)) ?_
      case gh => exact ea_cons (ev_var rfl) (ea_cons (ev_is (x := .int ((i : Int) + 1)) (by walk_at "ev") rfl) ea_nil)
      show res _ _ _ = _
      rw [hnode, hs]
      rfl
    | some p =>
      refine' ex_ret (ev_call ?gh (spEv (y := .tup [.str (S p.1), .int (p.2 : Nat)]) ⟨t, i + 1, rfl, hl, by rw [hs]; rfl⟩)) ?_
      case gh => exact ea_cons (ev_var rfl) (ea_cons (ev_is (x := .int ((i : Int) + 1)) (by walk_at "ev") rfl) ea_nil)
      show res _ _ _ = _
      rw [hnode, hs]
      rfl
  rw [if_neg (of_decide_eq_false z)] at hnode
  refine' ex_guard (b := !decide (t[i]? = some 60)) (eb_is ?gh ?ge) (fun z M => ?_) (fun z => ?_)
  case gh => walk_at "ev"
  case ge => exact congrArg (!·) (q_sg 60 rfl)
  · rw [if_neg (by simpa using z)] at hnode
    cases hs : numAt t i with
    | none =>
      refine' ex_retE (ee_call ?gh (spEe (x := ⟨a 2, none⟩) ⟨t, i, rfl, hl, by rw [hs]; rfl⟩)) ?_
      case gh => walk_at "ev"
      show res _ _ _ = _
      rw [hnode, hs]
      rfl
    | some p =>
      refine' ex_ret (ev_call ?gh (spEv (y := .tup [.int p.1, .int (p.2 : Nat)]) ⟨t, i, rfl, hl, by rw [hs]; rfl⟩)) ?_
      case gh => walk_at "ev"
      show res _ _ _ = _
      rw [hnode, hs]
      rfl
  have h60 : t[i]? = some 60 := by simpa using z
  rw [if_pos h60, htup.2] at hnode
  have hi : i < t.length := (List.getElem?_eq_some_iff.mp h60).1
  refine' ex_guard (b := decide ((n : Int) = 0)) ?gh (fun z M => ?_) (fun z => ?_)
  case gh => walk_at "ev"
  · have : n = 0 := by simpa using z
    subst this
    refine ex_dropE ee_bad ?_
    show res _ _ _ = _
    rw [hnode]
    rfl
  obtain ⟨m, rfl⟩ : ∃ m, n = m + 1 := by
    cases n with
    | zero => simp at z
    | succ m => exact ⟨m, rfl⟩
  have hnode : tAt t (m + 1) i = if t[i + 1]? = some 62 then some (.tup [], i + 2) else rLoop (tAt t m) t (t.length + 1) (i + 1) [] := hnode
  have em : (((m + 1 : Nat) : Int) - 1) = (m : Int) := by omega
  refine' ex_guard (b := decide (t[i + 1]? = some 62)) (eb_is ?gh ?ge) (fun z M => ?_) (fun z => ?_)
  case gh => walk_at "ev"
  case ge =>
    rw [show (i : Int) + 2 = ((i + 1 : Nat) : Int) + 1 by omega, show (i : Int) + 1 = ((i + 1 : Nat) : Int) by omega, cutS_sg]
    exact q_sg 62 rfl
  · refine' ex_ret (x := .tup [.tup [], .int ((i : Int) + 2)]) ?gh ?_
    case gh => walk_at "ev"
    · show res _ _ _ = _
      rw [hnode, if_pos (of_decide_eq_true z)]
      rfl
  rw [if_neg (of_decide_eq_false z)] at hnode
  refine' ex_seq1 (ex_par_own (xs := []) (y := .str (S [44])) (en_lst ea_nil (by decide)) (fun G => .str _) rfl) ?_
  show Exec E _ [some (.val (.str (S t))), some (.val (.int i)), some (.val (.int ((m + 1 : Nat) : Int))), some (.val (.str (S (sg t i)))), some (.mu true (.lst [])), some (.val (.str (S [44]))), none] _
  -- the loop
  refine ex_seq (fun τ' => ∃ (j : Nat) (acc : List PV) (s6 : Option Sl), τ' = [some (.val (.str (S t))), some (.val (.int j)), some (.val (.int ((m + 1 : Nat) : Int))), some (.val (.str (S (sg t i)))), some (.mu true (.lst acc)), some (.val (.str (S (sg t j)))), s6] ∧
      tAt t (m + 1) i = if t[j]? = some 62 then some (.tup acc, j + 1) else none)
    (ex_while (fun f τ' => ∃ (j : Nat) (acc : List PV) (mk : List Nat) (s6 : Option Sl), τ' = [some (.val (.str (S t))), some (.val (.int j)), some (.val (.int ((m + 1 : Nat) : Int))), some (.val (.str (S (sg t i)))), some (.mu true (.lst acc)), some (.val (.str (S mk))), s6] ∧
      ((mk = [44] ∧ j < t.length ∧ acc.length ≤ j ∧ t.length + 1 ≤ j + f ∧ 1 ≤ f ∧ tAt t (m + 1) i = rLoop (tAt t m) t f (j + 1) acc) ∨ (mk ≠ [44] ∧ mk = sg t j ∧ tAt t (m + 1) i = if t[j]? = some 62 then some (.tup acc, j + 1) else none)))
      (t.length + 1) ⟨i, [], [44], none, rfl, .inl ⟨rfl, hi, Nat.zero_le _, by omega, by omega, hnode⟩⟩ ?_) ?_
  · rintro f _ ⟨j, acc, mk, s6, rfl, hI⟩
    refine' ⟨decide (mk = [44]), _, eb_is ?gh ?ge, fun z => ?_, fun z => ?_⟩
    case gh => walk_at "ev"
    case ge => exact q_S rfl
    · have z := of_decide_eq_true z
      obtain ⟨rfl, hj, hacc, hf1, hf2, hres⟩ : mk = [44] ∧ j < t.length ∧ acc.length ≤ j ∧ t.length + 1 ≤ j + f ∧ 1 ≤ f ∧ tAt t (m + 1) i = rLoop (tAt t m) t f (j + 1) acc := hI.resolve_right fun q => q.1 z
      obtain ⟨f, rfl⟩ : ∃ f', f = f' + 1 := ⟨f - 1, by omega⟩
      have hres : tAt t (m + 1) i = (match tAt t m (j + 1) with | none => none | some (x, j) => if t[j]? = some 44 then rLoop (tAt t m) t f (j + 1) (acc ++ [x]) else if t[j]? = some 62 then some (.tup (acc ++ [x]), j + 1) else none) := hres
      have harg : EvA (tCons (tVar 0) (tCons (tOp (rI0 fun i j => .int (i + j)) (tVar 1) (tC (.int 1))) (tCons (tOp (rI0 fun i j => .int (i - j)) (tVar 2) (tC (.int 1))) tNil))) ([some (.val (.str (S t))), some (.val (.int j)), some (.val (.int ((m + 1 : Nat) : Int))), some (.val (.str (S (sg t i)))), some (.mu true (.lst acc)), some (.val (.str (S [44]))), s6] : TEnv) [.str (S t), .int ((j + 1 : Nat) : Int), .int (m : Int)] _ :=
        ea_cons (ev_var rfl) (ea_cons (ev_is (x := .int ((j : Int) + 1)) (by walk_at "ev") rfl) (ea_cons (ev_is (x := .int (((m + 1 : Nat) : Int) - 1)) (by walk_at "ev") (by rw [em])) ea_nil))
      cases hr1 : tAt t m (j + 1) with
      | none =>
        refine ex_seq (fun _ => False) (ex_asgE (ee_call harg (spEe (x := ⟨a 2, none⟩) ⟨t, j + 1, rfl, hl, by rw [hr1]; rfl⟩)) ?_) (fun _ q => q.elim)
        show res _ _ _ = _
        rw [hres, hr1]
        rfl
      | some p =>
        obtain ⟨x, k⟩ := p
        rw [hr1] at hres
        have hres : tAt t (m + 1) i = if t[k]? = some 44 then rLoop (tAt t m) t f (k + 1) (acc ++ [x]) else if t[k]? = some 62 then some (.tup (acc ++ [x]), k + 1) else none := hres
        have hk := tAt_prog t m (j + 1) x k hr1
        refine' ex_seq1 (ex_asg (x := .tup [x, .int k]) (τ2 := [some (.val (.str (S t))), some (.val (.int k)), some (.val (.int ((m + 1 : Nat) : Int))), some (.val (.str (S (sg t i)))), some (.mu true (.lst acc)), some (.val (.str (S [44]))), some (.val x)]) (ev_call harg (spEv ⟨t, j + 1, rfl, hl, by rw [hr1]; rfl⟩)) (tg_tup (tgs_cons tg_name (tgs_cons tg_name tgs_nil)) rfl) rfl) ?_
        refine' ex_seq1 (ex_app (i := 4) (o := true) (y := x) (xs := acc) (xs1 := acc) rfl (ev_var rfl) rfl (by omega) rfl) ?_
        refine' ex_set (x := .str (S (sg t k))) (ev_is ?gh ?ge) ?_
        case gh => walk_at "ev"
        case ge => rw [cutS_sg]
        refine ⟨f, by omega, k, acc ++ [x], sg t k, some (.val x), rfl, ?_⟩
        by_cases c : t[k]? = some 44
        · rw [if_pos c] at hres
          have := (List.getElem?_eq_some_iff.mp c).1
          exact .inl ⟨sg_eq.mpr c, this, by rw [List.length_append, List.length_singleton]; omega, by omega, by omega, hres⟩
        · rw [if_neg c] at hres
          exact .inr ⟨fun q => c (sg_eq.mp q), rfl, hres⟩
    · have z := of_decide_eq_false z
      obtain ⟨_, rfl, hres⟩ := hI.resolve_left fun q => z q.1
      exact ⟨j, acc, s6, rfl, hres⟩
  · rintro τ' ⟨j, acc, s6, rfl, hres⟩
    refine' ex_guard (b := !decide (t[j]? = some 62)) (eb_is ?gh ?ge) (fun z M => ?_) (fun z => ?_)
    case gh => walk_at "ev"
    case ge => exact congrArg (!·) (q_sg 62 rfl)
    · refine ex_dropE ee_bad ?_
      show res _ _ _ = _
      rw [hres, if_neg (by simpa using z)]
      rfl
    · refine ex_frz 4 (xs := acc) rfl ?_
      refine' ex_ret (x := .tup [.tup acc, .int ((j : Int) + 1)]) ?gh ?_
      case gh => walk_at "ev"
      show res _ _ _ = _
      rw [hres, if_pos (by simpa using z)]
      rfl
theorem ok_thing_at (T : Txt K mg a d) : ∀ n, FnOk P w K mg base (L2.CX P w) (4 + n) (a 18) (d 18) ["text", "at", "deep"] (spOfE (R_thing_at (a 2) n))
  | 0 => ok_thing_at1 T 0 ⟨fun vs H Q E h => by obtain ⟨_, _, _, _, _, h, _⟩ := h; exact h.elim, fun A outer s H args us vs Q E _ _ _ _ h => by obtain ⟨_, _, _, _, _, h, _⟩ := h; exact h.elim⟩
  | n + 1 => ok_thing_at1 T (n + 1) (by rw [show 3 + (n + 1) = 4 + n by omega]; exact ok_thing_at T n)
end
end K10
end
section
set_option maxRecDepth 100000
set_option maxHeartbeats 4000000
namespace K10
open PySem PySem.Spec PyProof.Rows L2 TLy TL NumText
/-! steps, one by one -/
local macro_rules | `(tactic| walk_at "ev") => `(tactic| first
  | exact ev_var rfl
  | exact ev_int
  | exact ev_str
  | exact ev_bl
  | exact ev_non
  | exact ev_ty
  | exact ea_nil
  | exact eo_none
  | exact r_add
  | exact r_sub
  | exact r_lt
  | exact r_le
  | exact r_gt
  | exact r_ge
  | exact r_eqI
  | exact r_neI
  | exact r_eqS
  | exact r_neS
  | exact r_leS
  | exact r_inSign
  | exact r_isN
  | exact r_notN
  | exact u_neg
  | exact c_intI
  | exact c_abs
  | exact c_ord
  | exact c_lenT
  | exact c_lenL
  | exact c_all
  | exact Nat.le_of_ble_eq_true rfl
  | exact c_tupL
  | exact c_lstL
  | exact c_lstT
  | exact u_slT
  | exact u_slL
  | exact tg_name
  | exact tgs_nil
  | ((with_reducible refine' ev_lenM ?_) <;> rfl)
  | ((with_reducible refine' ev_op ?_ ?_ ?_) <;> try walk_at "ev")
  | ((with_reducible refine' ev_un ?_ ?_) <;> try walk_at "ev")
  | ((with_reducible refine' ea_cons ?_ ?_) <;> try walk_at "ev")
  | ((with_reducible refine' eo_some ?_) <;> try walk_at "ev")
  | ((with_reducible refine' ev_cb ?_ ?_) <;> try walk_at "ev")
  | ((with_reducible refine' ev_sl ?_ ?_ ?_ ?_) <;> try walk_at "ev")
  | ((with_reducible refine' ev_chain ?_ ?_ ?_ ?_ ?_) <;> try walk_at "ev")
  | ((with_reducible refine' eb_test ?_) <;> try walk_at "ev")
  | ((with_reducible refine' eb_B ?_) <;> try walk_at "ev")
  | ((with_reducible refine' eb_not ?_) <;> try walk_at "ev")
  | ((with_reducible refine' eb_andP ?_ ?_) <;> try walk_at "ev")
  | ((with_reducible refine' eb_orP ?_ ?_) <;> try walk_at "ev")
  | ((with_reducible refine' ev_andP ?_ ?_) <;> try walk_at "ev")
  | ((with_reducible refine' ev_orP ?_ ?_) <;> try walk_at "ev")
  | ((with_reducible refine' ev_notP ?_) <;> try walk_at "ev")
  | ((with_reducible refine' ev_tup ?_ ?_) <;> try walk_at "ev")
  | ((with_reducible refine' ev_lst ?_ ?_) <;> try walk_at "ev")
  | ((with_reducible refine' ev_call ?_ ?_) <;> first | assumption | walk_at "ev" | skip)
  | ((with_reducible refine' tg_tup ?_ ?_) <;> try walk_at "ev")
  | ((with_reducible refine' tgs_cons ?_ ?_) <;> try walk_at "ev")
  | (refine' r_mul ?_)
  | (refine' r_modN ?_)
  | (refine' r_fdivN ?_)
  | (refine' r_pow ?_)
  | (refine' r_addS ?_)
  | (refine' r_catT ?_)
  | (refine' r_catL ?_)
  | (refine' r_ixT ?_)
  | (refine' r_ixL ?_)
  | (refine' r_ixS ?_ ?_ <;> first | exact len_sz (by omega) | exact at_get _ _ (by assumption) | skip)
  | (refine' u_slS ?_ <;> first | exact len_sz (by omega) | skip)
  | (refine' c_lenS ?_ <;> first | exact len_sz (by omega) | skip)
  | (refine' c_strI ?_)
  | (refine' c_intS ?_ ?_)
  | with_reducible exact isi_NB
  | with_reducible exact isi_NI
  | with_reducible exact isi_NS
  | with_reducible exact isi_NT
  | with_reducible exact isi_NL
  | with_reducible exact isi_BB
  | with_reducible exact isi_BI
  | with_reducible exact isi_BS
  | with_reducible exact isi_BT
  | with_reducible exact isi_BL
  | with_reducible exact isi_IB
  | with_reducible exact isi_II
  | with_reducible exact isi_IS
  | with_reducible exact isi_IT
  | with_reducible exact isi_IL
  | with_reducible exact isi_SB
  | with_reducible exact isi_SI
  | with_reducible exact isi_SS
  | with_reducible exact isi_ST
  | with_reducible exact isi_SL
  | with_reducible exact isi_TB
  | with_reducible exact isi_TI
  | with_reducible exact isi_TS
  | with_reducible exact isi_TT
  | with_reducible exact isi_TL
  | with_reducible exact isi_LB
  | with_reducible exact isi_LI
  | with_reducible exact isi_LS
  | with_reducible exact isi_LT
  | with_reducible exact isi_LL
  | (refine' r_eqD ?_ ?_ ?_ ?_)
  | (refine' r_neD ?_ ?_ ?_ ?_)
  | (intro _h; walk_at "ev"))

mutual
/-- of a size that can be walked -/
def sz : PV → Bool
  | .str s => decide (s.length ≤ 70000)
  | .tup l => decide (l.length ≤ 70000) && szs l
  | .lst l => decide (l.length ≤ 70000) && szs l
  | .ty _ => false
  | _ => true
def szs : List PV → Bool
  | [] => true
  | x :: l => sz x && szs l
end
theorem szs_mem : ∀ {l : List PV}, szs l = true → ∀ x ∈ l, sz x = true
  | [], _, _, h => by cases h
  | a :: l, e, x, h => by
    have e : (sz a && szs l) = true := e
    rw [Bool.and_eq_true] at e
    rcases List.mem_cons.mp h with rfl | h
    · exact e.1
    · exact szs_mem e.2 x h
theorem isThs_all (n : Nat) : ∀ l, isThs n l = l.all (isTh n)
  | [] => rfl
  | x :: l => by
    show (isTh n x && isThs n l) = _
    rw [isThs_all n l]
    rfl
theorem c_all' {K : PySem.W.Frag} {α : Type} {l : List α} {p : α → Bool} : RvC (rAll K) [.lst (l.map fun a => .bl (p a))] (.bl (l.all p)) := by
  have := c_all (K := K) (bs := l.map p)
  rw [List.map_map, List.all_map] at this
  exact this
theorem sz_ty {x : PV} (h : sz x = true) : ∀ m, x ≠ .ty m := fun m z => by
  subst z
  cases h
section
variable {P : Program} {w : World} {K : PySem.W.Frag} {mg : Str → Option Value} {base : Heap} {a : Nat → Addr} {d : Nat → FuncData}
def R_is_thing_in (n : Nat) : List PV → PV → Prop := fun xs y => ∃ x : PV, xs = [x, .int n] ∧ sz x = true ∧ y = .bl (isTh n x)
def R_prevI : Nat → List PV → PV → Prop
  | 0 => fun _ _ => False
  | n + 1 => R_is_thing_in n
theorem isTh_non (n : Nat) : isTh n .non = true := by cases n <;> rfl
theorem isTh_bl (n : Nat) (b : Bool) : isTh n (.bl b) = false := by cases n <;> rfl
theorem isTh_lst (n : Nat) (l : List PV) : isTh n (.lst l) = false := by cases n <;> rfl
theorem isTh_int (n : Nat) (i : Int) : isTh n (.int i) = (decide (-MOSTv < i) && decide (i < MOSTv)) := by cases n <;> rfl
theorem isTh_str (n : Nat) (s : Str) : isTh n (.str s) = (decide (s.length ≤ 2000) && s.cps.toList.all signOk) := by cases n <;> rfl
theorem ok_is_thing_in1 (T : Txt K mg a d) (n : Nat) (ih_is_thing_in : FnOk P w K mg base CX0 (2 + n) (a 12) (d 12) ["value", "deep"] (spOf (R_prevI n))) :
    FnOk P w K mg base CX0 (3 + n) (a 12) (d 12) ["value", "deep"] (spOf (R_is_thing_in n)) := by
  rw [show 3 + n = (2 + n) + 1 by omega]
  refine ok_pure T.is_thing_in.F sc_is_thing_in (fun xs y h => by obtain ⟨x, rfl, _⟩ := h; rfl) (by decide) (fun cdv A outer s H E hr xs y h => ?_)
  obtain ⟨x, rfl, hx, rfl⟩ := h
  obtain ⟨_, c_SIGNS⟩ := T.c_SIGNS
  obtain ⟨_, c_MOST⟩ := T.c_MOST
  refine ⟨_, (pss_cons (ps_if (pt_cmpR op_isN (pv 0) pe_non (nomark _)) (pss_one (ps_ret pe_bl)) pss_nil)
      (pss_cons (ps_if (pt_val (pe_callB call_isi (by rfl) T.n_isinstance (by decide +kernel) (pa_cons (pv 0) (pa_cons (pe_bltn (v := .ty "int") (by rfl) T.n_int (by decide +kernel) rfl) pa_nil)))) (pss_one (ps_ret (pe_and (pe_not (pe_callB call_isi (by rfl) T.n_isinstance (by decide +kernel) (pa_cons (pv 0) (pa_cons (pe_bltn (v := .ty "bool") (by rfl) T.n_bool (by decide +kernel) rfl) pa_nil)))) (pe_one (pe_chain op_lt op_lt (pe_un un_neg (pe_glob (v := .int MOSTv) (by rfl) c_MOST ⟨_, rfl⟩)) (pv 0) (pe_glob (v := .int MOSTv) (by rfl) c_MOST ⟨_, rfl⟩)))))) pss_nil)
      (pss_cons (ps_if (pt_val (pe_callB call_isi (by rfl) T.n_isinstance (by decide +kernel) (pa_cons (pv 0) (pa_cons (pe_bltn (v := .ty "str") (by rfl) T.n_str (by decide +kernel) rfl) pa_nil)))) (pss_one (ps_ret (pe_and (pe_cmpR op_le (pe_callB call_len (by rfl) T.n_len (by decide +kernel) (pa_cons (pv 0) pa_nil)) (pe_glob (v := .int 2000) (by rfl) c_SIGNS ⟨_, rfl⟩) (nomark _)) (pe_one (pe_callB (cr_all rfl) (by rfl) T.n_all (by decide +kernel) (pa_cons (pe_lc (own := [("own", 2)]) (g := gName 2) (by rfl) sc_is_thing_in.nd (pi_str (pv 0)) (blkOk_by (own := [("own", 2)]) (N := N_is_thing_in) (sc := defScope s_is_thing_in) (by decide +kernel)) (fun _ _ _ _ _ => (pg_name (i := 2) sc_is_thing_in.nd rfl (by first | exact Or.inl rfl | exact Or.inr rfl))) (fun _ _ _ _ _ => pts_nil) (fun _ _ _ _ _ => (pe_call (ok_is_sign T) (hr.mono (by first | decide | omega)) (by rfl) T.is_sign.g T.is_sign.F.kp T.is_sign.b .nil pass0 (pa_cons (pv 2) pa_nil)))) pa_nil)))))) pss_nil)
      (pss_one (ps_ret (pe_and (pe_callB call_isi (by rfl) T.n_isinstance (by decide +kernel) (pa_cons (pv 0) (pa_cons (pe_bltn (v := .ty "tuple") (by rfl) T.n_tuple (by decide +kernel) rfl) pa_nil))) (pe_and (pe_cmpR op_gt (pv 1) pe_int (nomark _)) (pe_one (pe_callB (cr_all rfl) (by rfl) T.n_all (by decide +kernel) (pa_cons (pe_lc (own := [("own", 2)]) (g := gName 2) (by rfl) sc_is_thing_in.nd (pi_tup (pv 0)) (blkOk_by (own := [("own", 2)]) (N := N_is_thing_in) (sc := defScope s_is_thing_in) (by decide +kernel)) (fun _ _ _ _ _ => (pg_name (i := 2) sc_is_thing_in.nd rfl (by first | exact Or.inl rfl | exact Or.inr rfl))) (fun _ _ _ _ _ => pts_nil) (fun _ _ _ _ _ => (pe_call ih_is_thing_in (hr.mono (by first | decide | omega)) (by rfl) T.is_thing_in.g T.is_thing_in.F.kp T.is_thing_in.b .nil pass0 (pa_cons (pv 2) (pa_cons (pe_op op_sub (pv 1) pe_int) pa_nil))))) pa_nil)))))))))), ?_⟩
  show Exec E _ [some (.val x), some (.val (.int n)), none] _
  cases x with
  | non =>
    refine' ex_gT ?gh fun M => ?_
    case gh => walk_at "ev"
    exact ex_ret ev_bl (by show _ = _; rw [isTh_non])
  | int i =>
    refine' ex_gF ?gh ?_
    case gh => walk_at "ev"
    refine' ex_gT (eb_B (ev_cb ?gh isi_II)) fun M => ?_
    case gh => exact ea_cons (ev_var rfl) (ea_cons ev_ty ea_nil)
    refine' ex_ret (x := .bl (!false && (decide (-MOSTv < i) && decide (i < MOSTv)))) ?gh (by show _ = _; rw [isTh_int]; rfl)
    case gh =>
      refine ev_andP (ev_notP (ev_cb (ea_cons (ev_var rfl) (ea_cons ev_ty ea_nil)) isi_IB)) fun _ => ?_
      · walk_at "ev"
  | bl b =>
    refine' ex_gF ?gh ?_
    case gh => walk_at "ev"
    refine' ex_gT (eb_B (ev_cb ?gh isi_BI)) fun M => ?_
    case gh => exact ea_cons (ev_var rfl) (ea_cons ev_ty ea_nil)
    refine' ex_ret (x := .bl (!true && false)) ?gh (by show _ = _; rw [isTh_bl]; rfl)
    case gh =>
      refine ev_andP (b := !true) (ev_notP (ev_cb (ea_cons (ev_var rfl) (ea_cons ev_ty ea_nil)) isi_BB)) fun z => Bool.noConfusion z
  | str z =>
    refine' ex_gF ?gh ?_
    case gh => walk_at "ev"
    refine' ex_gF (eb_B (ev_cb ?gh isi_SI)) ?_
    case gh => exact ea_cons (ev_var rfl) (ea_cons ev_ty ea_nil)
    refine' ex_gT (eb_B (ev_cb ?gh isi_SS)) fun M => ?_
    case gh => exact ea_cons (ev_var rfl) (ea_cons ev_ty ea_nil)
    have hz : z.length ≤ 70000 := by simpa [sz] using hx
    have el : z.cps.toList.length = z.length := by simp [Str.length]
    refine' ex_ret (x := .bl (decide ((z.length : Int) ≤ 2000) && z.cps.toList.all signOk)) ?gh ?_
    case gh =>
      refine ev_andP ?_ fun _ => ?_
      · walk_at "ev"
        exact small (by omega)
      · refine ev_cb (ea_cons (ev_new (en_lc1 z.cps.toList (fun c => .str ⟨#[c]⟩) (fun c => .bl (signOk c)) (it_str (ev_var rfl)) (fun o c h => by cases h) (by omega) fun c hc => ?_)) ea_nil) c_all'
        exact ev_call (ea_cons (ev_var rfl) ea_nil) (spP ⟨c, rfl, rfl⟩)
    · show _ = _
      rw [isTh_str]
      congr 2
      rw [Bool.eq_iff_iff, decide_eq_true_eq, decide_eq_true_eq]
      omega
  | tup l =>
    refine' ex_gF ?gh ?_
    case gh => walk_at "ev"
    refine' ex_gF (eb_B (ev_cb ?gh isi_TI)) ?_
    case gh => exact ea_cons (ev_var rfl) (ea_cons ev_ty ea_nil)
    refine' ex_gF (eb_B (ev_cb ?gh isi_TS)) ?_
    case gh => exact ea_cons (ev_var rfl) (ea_cons ev_ty ea_nil)
    have hx : (decide (l.length ≤ 70000) && szs l) = true := hx
    rw [Bool.and_eq_true, decide_eq_true_eq] at hx
    refine' ex_ret (x := .bl (true && (decide ((0 : Int) < (n : Int)) && isTh n (.tup l)))) ?gh ?_
    case gh =>
      refine ev_andP (ev_cb (ea_cons (ev_var rfl) (ea_cons ev_ty ea_nil)) isi_TT) fun _ => ev_andP ?_ fun z => ?_
      · walk_at "ev"
      · obtain ⟨m, rfl⟩ : ∃ m, n = m + 1 := by
          cases n with
          | zero => simp at z
          | succ m => exact ⟨m, rfl⟩
        have em : (((m + 1 : Nat) : Int) - 1) = (m : Int) := by omega
        show EvR _ _ (.bl (isThs m l)) _
        rw [isThs_all]
        refine ev_cb (ea_cons (ev_new (en_lc1 l (fun x => x) (fun x => .bl (isTh m x)) (by rw [List.map_id']; exact it_tup (ev_var rfl)) (fun o c h => by cases h) (by omega) fun x hx2 => ?_)) ea_nil) c_all'
        refine ev_call (ea_cons (ev_var rfl) (ea_cons (ev_is (x := .int (((m + 1 : Nat) : Int) - 1)) (by walk_at "ev") (by rw [em])) ea_nil)) (spP ⟨x, rfl, szs_mem hx.2 x hx2, rfl⟩)
    · show _ = _
      cases n with
      | zero => rfl
      | succ m =>
        rw [decide_eq_true (show (0 : Int) < ((m + 1 : Nat) : Int) by omega)]
        rfl
  | lst l =>
    refine' ex_gF ?gh ?_
    case gh => walk_at "ev"
    refine' ex_gF (eb_B (ev_cb ?gh isi_LI)) ?_
    case gh => exact ea_cons (ev_var rfl) (ea_cons ev_ty ea_nil)
    refine' ex_gF (eb_B (ev_cb ?gh isi_LS)) ?_
    case gh => exact ea_cons (ev_var rfl) (ea_cons ev_ty ea_nil)
    refine' ex_ret (x := .bl (false && true)) ?gh (by show _ = _; rw [isTh_lst]; rfl)
    case gh =>
      refine ev_andP (b := false) (c := true) (ev_cb (ea_cons (ev_var rfl) (ea_cons ev_ty ea_nil)) isi_LT) fun z => Bool.noConfusion z
  | ty m => cases hx
theorem ok_is_thing_in (T : Txt K mg a d) : ∀ n, FnOk P w K mg base CX0 (3 + n) (a 12) (d 12) ["value", "deep"] (spOf (R_is_thing_in n))
  | 0 => ok_is_thing_in1 T 0 ⟨fun vs H Q E h => by obtain ⟨_, _, _, _, _, h, _⟩ := h; exact h.elim, fun A outer s H args us vs Q E _ _ _ _ h => by obtain ⟨_, _, _, _, _, h, _⟩ := h; exact h.elim⟩
  | n + 1 => ok_is_thing_in1 T (n + 1) (by rw [show 2 + (n + 1) = 3 + n by omega]; exact ok_is_thing_in T n)
end
end K10
end
section
set_option maxRecDepth 100000
set_option maxHeartbeats 4000000
namespace K10
open PySem PySem.Spec PyProof.Rows L2 TLy TL NumText
/-! steps, one by one -/
local macro_rules | `(tactic| walk_at "ev") => `(tactic| first
  | exact ev_var rfl
  | exact ev_int
  | exact ev_str
  | exact ev_bl
  | exact ev_non
  | exact ev_ty
  | exact ea_nil
  | exact eo_none
  | exact r_add
  | exact r_sub
  | exact r_lt
  | exact r_le
  | exact r_gt
  | exact r_ge
  | exact r_eqI
  | exact r_neI
  | exact r_eqS
  | exact r_neS
  | exact r_leS
  | exact r_inSign
  | exact r_isN
  | exact r_notN
  | exact u_neg
  | exact c_intI
  | exact c_abs
  | exact c_ord
  | exact c_lenT
  | exact c_lenL
  | exact c_all
  | exact Nat.le_of_ble_eq_true rfl
  | exact c_tupL
  | exact c_lstL
  | exact c_lstT
  | exact u_slT
  | exact u_slL
  | exact tg_name
  | exact tgs_nil
  | ((with_reducible refine' ev_lenM ?_) <;> rfl)
  | ((with_reducible refine' ev_op ?_ ?_ ?_) <;> try walk_at "ev")
  | ((with_reducible refine' ev_un ?_ ?_) <;> try walk_at "ev")
  | ((with_reducible refine' ea_cons ?_ ?_) <;> try walk_at "ev")
  | ((with_reducible refine' eo_some ?_) <;> try walk_at "ev")
  | ((with_reducible refine' ev_cb ?_ ?_) <;> try walk_at "ev")
  | ((with_reducible refine' ev_sl ?_ ?_ ?_ ?_) <;> try walk_at "ev")
  | ((with_reducible refine' ev_chain ?_ ?_ ?_ ?_ ?_) <;> try walk_at "ev")
  | ((with_reducible refine' eb_test ?_) <;> try walk_at "ev")
  | ((with_reducible refine' eb_B ?_) <;> try walk_at "ev")
  | ((with_reducible refine' eb_not ?_) <;> try walk_at "ev")
  | ((with_reducible refine' eb_andP ?_ ?_) <;> try walk_at "ev")
  | ((with_reducible refine' eb_orP ?_ ?_) <;> try walk_at "ev")
  | ((with_reducible refine' ev_andP ?_ ?_) <;> try walk_at "ev")
  | ((with_reducible refine' ev_orP ?_ ?_) <;> try walk_at "ev")
  | ((with_reducible refine' ev_notP ?_) <;> try walk_at "ev")
  | ((with_reducible refine' ev_tup ?_ ?_) <;> try walk_at "ev")
  | ((with_reducible refine' ev_lst ?_ ?_) <;> try walk_at "ev")
  | ((with_reducible refine' ev_call ?_ ?_) <;> first | assumption | walk_at "ev" | skip)
  | ((with_reducible refine' tg_tup ?_ ?_) <;> try walk_at "ev")
  | ((with_reducible refine' tgs_cons ?_ ?_) <;> try walk_at "ev")
  | (refine' r_mul ?_)
  | (refine' r_modN ?_)
  | (refine' r_fdivN ?_)
  | (refine' r_pow ?_)
  | (refine' r_addS ?_)
  | (refine' r_catT ?_)
  | (refine' r_catL ?_)
  | (refine' r_ixT ?_)
  | (refine' r_ixL ?_)
  | (refine' r_ixS ?_ ?_ <;> first | exact len_sz (by omega) | exact at_get _ _ (by assumption) | skip)
  | (refine' u_slS ?_ <;> first | exact len_sz (by omega) | skip)
  | (refine' c_lenS ?_ <;> first | exact len_sz (by omega) | skip)
  | (refine' c_strI ?_)
  | (refine' c_intS ?_ ?_)
  | with_reducible exact isi_NB
  | with_reducible exact isi_NI
  | with_reducible exact isi_NS
  | with_reducible exact isi_NT
  | with_reducible exact isi_NL
  | with_reducible exact isi_BB
  | with_reducible exact isi_BI
  | with_reducible exact isi_BS
  | with_reducible exact isi_BT
  | with_reducible exact isi_BL
  | with_reducible exact isi_IB
  | with_reducible exact isi_II
  | with_reducible exact isi_IS
  | with_reducible exact isi_IT
  | with_reducible exact isi_IL
  | with_reducible exact isi_SB
  | with_reducible exact isi_SI
  | with_reducible exact isi_SS
  | with_reducible exact isi_ST
  | with_reducible exact isi_SL
  | with_reducible exact isi_TB
  | with_reducible exact isi_TI
  | with_reducible exact isi_TS
  | with_reducible exact isi_TT
  | with_reducible exact isi_TL
  | with_reducible exact isi_LB
  | with_reducible exact isi_LI
  | with_reducible exact isi_LS
  | with_reducible exact isi_LT
  | with_reducible exact isi_LL
  | (refine' r_eqD ?_ ?_ ?_ ?_)
  | (refine' r_neD ?_ ?_ ?_ ?_)
  | (intro _h; walk_at "ev"))

theorem joinL_C : ∀ l : List (List Nat), TL.joinL [44] l = joinC l
  | [] => rfl
  | [x] => rfl
  | x :: y :: r => by
    show x ++ ([44] ++ TL.joinL [44] (y :: r)) = x ++ 44 :: joinC (y :: r)
    rw [joinL_C (y :: r)]
    rfl
theorem join_S (l : List (List Nat)) : Txt.join "," (l.map S) = S (joinC l) := by
  have e := TL.tl_join "," (l.map S)
  rw [TL.join_eq]
  refine TL.ext_tl (e.trans ?_)
  rw [List.map_map]
  have : (TL.tl ∘ S) = fun x : List Nat => x := rfl
  rw [this, List.map_id']
  exact joinL_C l
theorem joinC_sum : ∀ l : List (List Nat), (l.map List.length).sum + l.length ≤ (joinC l).length + 1
  | [] => by simp
  | [x] => by simp [joinC]
  | x :: y :: r => by
    have := joinC_sum (y :: r)
    show ((x :: y :: r).map List.length).sum + _ ≤ (x ++ 44 :: joinC (y :: r)).length + 1
    have e1 : (44 :: joinC (y :: r)).length = (joinC (y :: r)).length + 1 := rfl
    have e2 : (x :: y :: r).length = (y :: r).length + 1 := rfl
    rw [List.map_cons, List.sum_cons, List.length_append, e1, e2]
    omega
theorem joinC_mem : ∀ (l : List (List Nat)) (x : List Nat), x ∈ l → x.length ≤ (joinC l).length
  | [x], y, h => by
    rw [List.mem_singleton.mp h]
    exact Nat.le_refl _
  | x :: y :: r, z, h => by
    show _ ≤ (x ++ 44 :: joinC (y :: r)).length
    rw [List.length_append, List.length_cons]
    rcases List.mem_cons.mp h with rfl | h
    · omega
    · have := joinC_mem (y :: r) z h
      omega
theorem int_log {i : Int} (h : (decide (-MOSTv < i) && decide (i < MOSTv)) = true) : i.natAbs.log2 < 1920 := by
  have := natAbs_lt h
  exact PySem.Flt.log2_lt_of (by decide) (Nat.lt_trans this (by decide +kernel))
theorem nat_log {n : Nat} (h : n ≤ 1000000) : (n : Int).natAbs.log2 < 1920 := PySem.Flt.log2_lt_of (by decide) (Nat.lt_of_le_of_lt h (by decide +kernel))
theorem isTh_tup {n : Nat} {l : List PV} (h : isTh n (.tup l) = true) : ∃ m, n = m + 1 ∧ isThs m l = true := by
  cases n with
  | zero => cases h
  | succ m => exact ⟨m, rfl, h⟩
section
variable {P : Program} {w : World} {K : PySem.W.Frag} {mg : Str → Option Value} {base : Heap} {a : Nat → Addr} {d : Nat → FuncData}
def R_text (n : Nat) : List PV → PV → Prop := fun xs y => ∃ x : PV, xs = [x] ∧ isTh n x = true ∧ (txt x).length ≤ 100000 ∧ y = .str (S (txt x))
def R_prevT : Nat → List PV → PV → Prop
  | 0 => fun _ _ => False
  | n + 1 => R_text n
theorem tupT {m : Nat} {l : List PV} {te : TE} {τ : TEnv} {i : Nat} {R : List PV → PV → Prop} {E : XK} (hx : isThs m l = true) (hl : (txt (.tup l)).length ≤ 100000)
    (hv : ∀ o c, τ[i]? ≠ some (some (.mu o c))) (hi : τ[0]? = some (some (.val (.tup l))))
    (h : ∀ x ∈ l, isTh m x = true → (txt x).length ≤ 100000 → EvR te ((lentT τ).set i (some (.val x))) (.str (S (txt x))) ((lentT τ).set i (some (.val x)))) :
    EvR (tOp (fun x y H Q => ∃ i j, x = .str i ∧ y = .str j ∧ i.length + j.length ≤ sizeLine ∧ Q (.str (i ++ j)) H) (tOp (fun x y H Q => ∃ i j, x = .str i ∧ y = .str j ∧ i.length + j.length ≤ sizeLine ∧ Q (.str (i ++ j)) H) (tC (.str "<"))
      (tBM K "str" (fun x xs H Q => ∃ a p, ∃ ys : List Str, x = .str a ∧ xs = [.ref p] ∧ (SqL K H p (ys.map V.str) ∨ SqT K H p (ys.map V.str)) ∧
    (ys.map (·.length)).sum + ys.length * a.length ≤ 16777216 ∧ Q (.str (Txt.join a ys)) H) (tC (.str ",")) (tCons (tLc (iTup K (tVar 0)) (gName i) tYes te [i]) tNil))) (tC (.str ">"))) τ (.str (S (txt (.tup l)))) τ := by
  have hlen : (txt (.tup l)).length = (joinC (txts l)).length + 2 := by
    show (60 :: (joinC (txts l) ++ [62])).length = _
    simp
  have hs := joinC_sum (txts l)
  have hm := joinC_mem (txts l)
  have hll : l.length ≤ 100001 := by
    have : (txts l).length = l.length := by rw [txts_map, List.length_map]
    omega
  have key : EvR (tBM K "str" (fun x xs H Q => ∃ a p, ∃ ys : List Str, x = .str a ∧ xs = [.ref p] ∧ (SqL K H p (ys.map V.str) ∨ SqT K H p (ys.map V.str)) ∧
    (ys.map (·.length)).sum + ys.length * a.length ≤ 16777216 ∧ Q (.str (Txt.join a ys)) H) (tC (.str ",")) (tCons (tLc (iTup K (tVar 0)) (gName i) tYes te [i]) tNil)) τ (.str (S (joinC (txts l)))) τ := by
    rw [← join_S]
    refine ev_bm ev_str (fun G H e v r => tyV_str G H e v r) (ea_cons (ev_new (xs := ((txts l).map S).map PV.str) ?_) ea_nil) (m_join ?_)
    · rw [txts_map, List.map_map, List.map_map]
      refine en_lc1 l (fun x => x) _ (by rw [List.map_id']; exact it_tup (ev_var hi)) hv (by
        have : (txts l).length = l.length := by rw [txts_map, List.length_map]
        have h1 := joinC_len l fun x hx2 => isTh_txt (isThs_mem hx x hx2)
        omega) fun x hx2 => ?_
      exact h x hx2 (isThs_mem hx x hx2) (by have := hm (txt x) (by rw [txts_map]; exact List.mem_map_of_mem hx2); omega)
    · rw [List.map_map, List.length_map]
      have e1 : ((fun x : Str => x.length) ∘ S) = List.length := by funext x; exact S_len x
      rw [e1]
      show _ + _ * 1 ≤ _
      omega
  have e1 : S (txt (.tup l)) = ("<" ++ S (joinC (txts l)) ++ ">" : Str) := by
    rw [show ("<" : Str) = S [60] from rfl, show (">" : Str) = S [62] from rfl, S_app, S_app]
    rfl
  rw [e1]
  have hj : (S (joinC (txts l))).length ≤ 100000 := by rw [S_len]; omega
  refine ev_op (ev_op ev_str key (r_addS ?_)) ev_str (r_addS ?_)
  · exact small (by show 1 + _ ≤ _; omega)
  · refine small ?_
    rw [show ("<" : Str) = S [60] from rfl, show (">" : Str) = S [62] from rfl, S_app, S_len, S_len]
    simp
    omega
theorem strT {s : Str} {τ : TEnv} (hs : s.length ≤ 2000) {i : Nat} (hi : τ[i]? = some (some (.val (.str s)))) {r : R2} {tn : TE} (hr : ∀ {a b : Str}, a.length + b.length ≤ sizeLine → RvR r (.str a) (.str b) (.str (a ++ b)))
    (hn : EvR tn τ (.str (toString (s.length : Int))) τ) :
    EvR (tOp r (tOp r (tOp r (tC (.str "=")) tn) (tC (.str ":"))) (tVar i)) τ (.str (S (txt (.str s)))) τ := by
  have e0 : (toString (s.length : Int) : Str) = S (numL s.length) := by
    have := str_int (s.length : Int)
    rw [intL, if_neg (by omega)] at this
    exact this
  rw [e0] at hn
  have hl : (numL s.length).length ≤ 4 := (len_le (by decide)).mpr (by omega)
  have e1 : S (txt (.str s)) = ("=" ++ S (numL s.length) ++ ":" ++ s : Str) := by
    have e2 : ("=" ++ S (numL s.length) ++ ":" : Str) = S ([61] ++ numL s.length ++ [58]) := by
      rw [show ("=" : Str) = S [61] from rfl, show (":" : Str) = S [58] from rfl, S_app, S_app]
    rw [e2]
    refine Eq.trans ?_ (S_app _ s.cps.toList).symm
    show S (61 :: (numL s.length ++ 58 :: s.cps.toList)) = _
    rw [List.append_assoc, List.append_assoc]
    rfl
  have l1 : ("=" ++ S (numL s.length) : Str).length = 1 + (numL s.length).length := by
    rw [show ("=" : Str) = S [61] from rfl, S_app, S_len, List.length_append]
    rfl
  have l2 : ("=" ++ S (numL s.length) ++ ":" : Str).length = 1 + (numL s.length).length + 1 := by
    rw [show ("=" : Str) = S [61] from rfl, show (":" : Str) = S [58] from rfl, S_app, S_app, S_len, List.length_append, List.length_append]
    rfl
  rw [e1]
  refine ev_op (ev_op (ev_op ev_str hn (hr ?_)) ev_str (hr ?_)) (ev_var hi) (hr ?_)
  · exact small (by show 1 + (S (numL s.length)).length ≤ _; rw [S_len]; omega)
  · exact small (by rw [l1]; show _ + 1 ≤ _; omega)
  · exact small (by rw [l2]; omega)
theorem ok_text_in1 (T : Txt K mg a d) (n : Nat) (ih_text_in : FnOk P w K mg base CX0 (1 + n) (a 13) (d 13) ["thing"] (spOf (R_prevT n))) :
    FnOk P w K mg base CX0 (2 + n) (a 13) (d 13) ["thing"] (spOf (R_text n)) := by
  rw [show 2 + n = (1 + n) + 1 by omega]
  refine ok_pure T.text_in.F sc_text_in (fun xs y h => by obtain ⟨x, rfl, _⟩ := h; rfl) (by decide) (fun cdv A outer s H E hr xs y h => ?_)
  obtain ⟨x, rfl, hx, hlen, rfl⟩ := h
  refine ⟨_, (pss_cons (ps_if (pt_cmpR op_isN (pv 0) pe_non (nomark _)) (pss_one (ps_ret pe_str)) pss_nil)
      (pss_cons (ps_if (pt_val (pe_callB call_isi (by rfl) T.n_isinstance (by decide +kernel) (pa_cons (pv 0) (pa_cons (pe_bltn (v := .ty "int") (by rfl) T.n_int (by decide +kernel) rfl) pa_nil)))) (pss_one (ps_ret (pe_callTy call_str_int (by rfl) T.n_str (by decide +kernel) (pa_cons (pv 0) pa_nil)))) pss_nil)
      (pss_cons (ps_if (pt_val (pe_callB call_isi (by rfl) T.n_isinstance (by decide +kernel) (pa_cons (pv 0) (pa_cons (pe_bltn (v := .ty "str") (by rfl) T.n_str (by decide +kernel) rfl) pa_nil)))) (pss_one (ps_ret (pe_op op_add_str (pe_op op_add_str (pe_op op_add_str pe_str (pe_callTy call_str_int (by rfl) T.n_str (by decide +kernel) (pa_cons (pe_callB call_len (by rfl) T.n_len (by decide +kernel) (pa_cons (pv 0) pa_nil)) pa_nil))) pe_str) (pv 0)))) pss_nil)
      (pss_one (ps_ret (pe_op op_add_str (pe_op op_add_str pe_str (pe_bm PySem.F.plainAttrs_str PySem.F.slot_str_join PySem.F.type_str_join mt_join pe_str (pa_cons (pe_lc (own := [("own", 1)]) (g := gName 1) (by rfl) sc_text_in.nd (pi_tup (pv 0)) (blkOk_by (own := [("own", 1)]) (N := N_text_in) (sc := defScope s_text_in) (by decide +kernel)) (fun _ _ _ _ _ => (pg_name (i := 1) sc_text_in.nd rfl (by first | exact Or.inl rfl | exact Or.inr rfl))) (fun _ _ _ _ _ => pts_nil) (fun _ _ _ _ _ => (pe_call ih_text_in (hr.mono (by first | decide | omega)) (by rfl) T.text_in.g T.text_in.F.kp T.text_in.b .nil pass0 (pa_cons (pv 1) pa_nil)))) pa_nil))) pe_str)))))), ?_⟩
  show Exec E _ [some (.val x), none] _
  cases x with
  | non =>
    refine' ex_gT ?gh fun M => ?_
    case gh => walk_at "ev"
    exact ex_ret ev_str rfl
  | int i =>
    refine' ex_gF ?gh ?_
    case gh => walk_at "ev"
    refine' ex_gT ?gh fun M => ?_
    case gh => walk_at "ev"
    rw [isTh_int] at hx
    refine' ex_ret (x := .str (toString i)) ?gh (congrArg PV.str (str_int i))
    case gh => exact ev_cb (ea_cons (ev_var rfl) ea_nil) (c_strI (int_log hx))
  | bl b => rw [isTh_bl] at hx; cases hx
  | str z =>
    refine' ex_gF ?gh ?_
    case gh => walk_at "ev"
    refine' ex_gF ?gh ?_
    case gh => walk_at "ev"
    refine' ex_gT ?gh fun M => ?_
    case gh => walk_at "ev"
    rw [isTh_str, Bool.and_eq_true, decide_eq_true_eq] at hx
    refine ex_ret (strT hx.1 rfl (fun h => r_addS h) ?_) rfl
    exact ev_cb (ea_cons (ev_cb (ea_cons (ev_var rfl) ea_nil) (c_lenS (small (by omega)))) ea_nil) (c_strI (nat_log (by omega)))
  | tup l =>
    refine' ex_gF ?gh ?_
    case gh => walk_at "ev"
    refine' ex_gF ?gh ?_
    case gh => walk_at "ev"
    refine' ex_gF ?gh ?_
    case gh => walk_at "ev"
    obtain ⟨m, rfl, hx⟩ := isTh_tup hx
    refine ex_ret (tupT (R := R_text m) (E := E) (i := 1) hx hlen (fun o c h => by cases h) rfl fun x _ h1 h2 => ?_) rfl
    exact ev_call (ea_cons (ev_var rfl) ea_nil) (spP ⟨x, rfl, h1, h2, rfl⟩)
  | lst l => rw [isTh_lst] at hx; cases hx
  | ty m => cases n <;> cases hx
theorem ok_never {lv : Nat} {f : Addr} {fd : FuncData} {ps : List Str} : FnOk P w K mg base CX0 lv f fd ps (spOf (fun _ _ => False)) :=
  ⟨fun vs H Q E h => by obtain ⟨_, _, _, _, _, h, _⟩ := h; exact h.elim, fun A outer s H args us vs Q E _ _ _ _ h => by obtain ⟨_, _, _, _, _, h, _⟩ := h; exact h.elim⟩
theorem ok_text_in (T : Txt K mg a d) : ∀ n, FnOk P w K mg base CX0 (2 + n) (a 13) (d 13) ["thing"] (spOf (R_text n))
  | 0 => ok_text_in1 T 0 ok_never
  | n + 1 => ok_text_in1 T (n + 1) (by rw [show 1 + (n + 1) = 2 + n by omega]; exact ok_text_in T n)
theorem ex_gTb {E : XK} {τ τ1 : TEnv} {t u : TS} {P : Post} {tt : TT} (b : Bool) (h : EvB tt τ b τ1) (hb : b = true) (h1 : ∀ M, Exec E t τ1 { P with nx := M }) : Exec E (tSeq (tIfS tt t tNext) u) τ P := ex_gT (hb ▸ h) h1
theorem ex_gFb {E : XK} {τ τ1 : TEnv} {t u : TS} {P : Post} {tt : TT} (b : Bool) (h : EvB tt τ b τ1) (hb : b = false) (h2 : Exec E u τ1 P) : Exec E (tSeq (tIfS tt t tNext) u) τ P := ex_gF (hb ▸ h) h2
/-! _law_sort, _law_text -/
def sortP : PV → Int
  | .non => 0 | .bl _ => 1 | .int _ => 2 | .str _ => 3 | .tup _ => 4 | .lst _ => 5 | .ty _ => 6
def R_law_sort : List PV → PV → Prop := fun xs y => ∃ x : PV, xs = [x] ∧ (∀ m, x ≠ .ty m) ∧ y = .int (sortP x)
theorem ok__law_sort (T : Txt K mg a d) : FnOk P w K mg base CX0 1 (a 28) (d 28) ["value"] (spOf R_law_sort) := by
  refine ok_pure T._law_sort.F sc__law_sort (fun xs y h => by obtain ⟨x, rfl, _⟩ := h; rfl) (by decide) (fun cdv A outer s H E hr xs y h => ?_)
  obtain ⟨x, rfl, hx, rfl⟩ := h
  refine ⟨_, (pss_cons (ps_if (PW.pt (pw_or (pt_cmpR op_isN (pv 0) pe_non (nomark _)) (pw_or1 (pt_val (pe_callB call_isi (by rfl) T.n_isinstance (by decide +kernel) (pa_cons (pv 0) (pa_cons (pe_bltn (v := .ty "bool") (by rfl) T.n_bool (by decide +kernel) rfl) pa_nil))))))) (pss_one (ps_ret (pe_ifExp (pt_cmpR op_isN (pv 0) pe_non (nomark _)) pe_int pe_int))) pss_nil)
      (pss_cons (ps_if (PW.pt (pw_or (pt_val (pe_callB call_isi (by rfl) T.n_isinstance (by decide +kernel) (pa_cons (pv 0) (pa_cons (pe_bltn (v := .ty "int") (by rfl) T.n_int (by decide +kernel) rfl) pa_nil)))) (pw_or1 (pt_val (pe_callB call_isi (by rfl) T.n_isinstance (by decide +kernel) (pa_cons (pv 0) (pa_cons (pe_bltn (v := .ty "str") (by rfl) T.n_str (by decide +kernel) rfl) pa_nil))))))) (pss_one (ps_ret (pe_ifExp (pt_val (pe_callB call_isi (by rfl) T.n_isinstance (by decide +kernel) (pa_cons (pv 0) (pa_cons (pe_bltn (v := .ty "int") (by rfl) T.n_int (by decide +kernel) rfl) pa_nil)))) pe_int pe_int))) pss_nil)
      (pss_one (ps_ret (pe_ifExp (pt_val (pe_callB call_isi (by rfl) T.n_isinstance (by decide +kernel) (pa_cons (pv 0) (pa_cons (pe_bltn (v := .ty "tuple") (by rfl) T.n_tuple (by decide +kernel) rfl) pa_nil)))) pe_int (pe_ifExp (pt_val (pe_callB call_isi (by rfl) T.n_isinstance (by decide +kernel) (pa_cons (pv 0) (pa_cons (pe_bltn (v := .ty "list") (by rfl) T.n_list (by decide +kernel) rfl) pa_nil)))) pe_int pe_int)))))), ?_⟩
  show Exec E _ [some (.val x)] _
  cases x with
  | ty m => exact absurd rfl (hx m)
  | non =>
    refine' ex_gTb (true || false) ?gh rfl fun M => ?_
    case gh => refine eb_orP ?_ fun z => Bool.noConfusion z; walk_at "ev"
    refine' ex_ret (x := .int 0) (ev_if (b := true) ?gh (fun _ => ev_int) fun z => Bool.noConfusion z) rfl
    case gh => walk_at "ev"
  | bl b =>
    refine' ex_gTb (false || true) ?gh rfl fun M => ?_
    case gh => walk_at "ev"
    refine' ex_ret (x := .int 1) (ev_if (b := false) ?gh (fun z => Bool.noConfusion z) fun _ => ev_int) rfl
    case gh => walk_at "ev"
  | int b =>
    refine' ex_gFb (false || false) ?gh rfl ?_
    case gh => walk_at "ev"
    refine' ex_gTb (true || false) ?gh rfl fun M => ?_
    case gh => refine eb_orP ?_ fun z => Bool.noConfusion z; walk_at "ev"
    refine' ex_ret (x := .int 2) (ev_if (b := true) ?gh (fun _ => ev_int) fun z => Bool.noConfusion z) rfl
    case gh => walk_at "ev"
  | str b =>
    refine' ex_gFb (false || false) ?gh rfl ?_
    case gh => walk_at "ev"
    refine' ex_gTb (false || true) ?gh rfl fun M => ?_
    case gh => walk_at "ev"
    refine' ex_ret (x := .int 3) (ev_if (b := false) ?gh (fun z => Bool.noConfusion z) fun _ => ev_int) rfl
    case gh => walk_at "ev"
  | tup b =>
    refine' ex_gFb (false || false) ?gh rfl ?_
    case gh => walk_at "ev"
    refine' ex_gFb (false || false) ?gh rfl ?_
    case gh => walk_at "ev"
    refine' ex_ret (x := .int 4) (ev_if (b := true) ?gh (fun _ => ev_int) fun z => Bool.noConfusion z) rfl
    case gh => walk_at "ev"
  | lst b =>
    refine' ex_gFb (false || false) ?gh rfl ?_
    case gh => walk_at "ev"
    refine' ex_gFb (false || false) ?gh rfl ?_
    case gh => walk_at "ev"
    refine' ex_ret (x := .int 5) (ev_if (b := false) ?gh (fun z => Bool.noConfusion z) fun _ => ev_if (b := true) ?gi (fun _ => ev_int) fun z => Bool.noConfusion z) rfl
    case gh => walk_at "ev"
    case gi => walk_at "ev"
theorem ok__law_text1 (T : Txt K mg a d) (n : Nat) (ih__law_text : FnOk P w K mg base CX0 (1 + n) (a 32) (d 32) ["thing"] (spOf (R_prevT n))) :
    FnOk P w K mg base CX0 (2 + n) (a 32) (d 32) ["thing"] (spOf (R_text n)) := by
  rw [show 2 + n = (1 + n) + 1 by omega]
  refine ok_pure T._law_text.F sc__law_text (fun xs y h => by obtain ⟨x, rfl, _⟩ := h; rfl) (by decide) (fun cdv A outer s H E hr xs y h => ?_)
  obtain ⟨x, rfl, hx, hlen, rfl⟩ := h
  refine ⟨_, (pss_cons (ps_if (pt_cmpR op_isN (pv 0) pe_non (nomark _)) (pss_one (ps_ret pe_str)) pss_nil)
      (pss_cons (ps_if (pt_cmpR op_eq (pe_call (ok__law_sort T) (hr.mono (by first | decide | omega)) (by rfl) T._law_sort.g T._law_sort.F.kp T._law_sort.b .nil pass0 (pa_cons (pv 0) pa_nil)) pe_int (nomark _)) (pss_one (ps_ret (pe_callTy call_str_int (by rfl) T.n_str (by decide +kernel) (pa_cons (pv 0) pa_nil)))) pss_nil)
      (pss_cons (ps_if (pt_cmpR op_eq (pe_call (ok__law_sort T) (hr.mono (by first | decide | omega)) (by rfl) T._law_sort.g T._law_sort.F.kp T._law_sort.b .nil pass0 (pa_cons (pv 0) pa_nil)) pe_int (nomark _)) (pss_one (ps_ret (pe_op op_add_str (pe_op op_add_str (pe_op op_add_str pe_str (pe_callTy call_str_int (by rfl) T.n_str (by decide +kernel) (pa_cons (pe_callB call_len (by rfl) T.n_len (by decide +kernel) (pa_cons (pv 0) pa_nil)) pa_nil))) pe_str) (pv 0)))) pss_nil)
      (pss_one (ps_ret (pe_op op_add_str (pe_op op_add_str pe_str (pe_bm PySem.F.plainAttrs_str PySem.F.slot_str_join PySem.F.type_str_join mt_join pe_str (pa_cons (pe_lc (own := [("own", 1)]) (g := gName 1) (by rfl) sc__law_text.nd (pi_tup (pv 0)) (blkOk_by (own := [("own", 1)]) (N := N__law_text) (sc := defScope s__law_text) (by decide +kernel)) (fun _ _ _ _ _ => (pg_name (i := 1) sc__law_text.nd rfl (by first | exact Or.inl rfl | exact Or.inr rfl))) (fun _ _ _ _ _ => pts_nil) (fun _ _ _ _ _ => (pe_call ih__law_text (hr.mono (by first | decide | omega)) (by rfl) T._law_text.g T._law_text.F.kp T._law_text.b .nil pass0 (pa_cons (pv 1) pa_nil)))) pa_nil))) pe_str)))))), ?_⟩
  show Exec E _ [some (.val x), none] _
  have hs : (∀ m, x ≠ .ty m) → ∀ k : Int, EvB (tTest (tOp rEq (tCall (spOf R_law_sort) [] E0 (tCons (tVar 0) tNil)) (tC (.int k)))) [some (.val x), none] (decide (sortP x = k)) [some (.val x), none] := fun hx k =>
    eb_test (ev_op (ev_call (ea_cons (ev_var rfl) ea_nil) (spP ⟨x, rfl, hx, rfl⟩)) ev_int r_eqI)
  cases x with
  | non =>
    refine' ex_gT ?gh fun M => ?_
    case gh => walk_at "ev"
    exact ex_ret ev_str rfl
  | int i =>
    refine' ex_gF ?gh ?_
    case gh => walk_at "ev"
    refine' ex_gT (hs (fun m z => by cases z) 2) fun M => ?_
    rw [isTh_int] at hx
    refine' ex_ret (x := .str (toString i)) ?gh (congrArg PV.str (str_int i))
    case gh => exact ev_cb (ea_cons (ev_var rfl) ea_nil) (c_strI (int_log hx))
  | bl b => rw [isTh_bl] at hx; cases hx
  | str z =>
    refine' ex_gF ?gh ?_
    case gh => walk_at "ev"
    refine' ex_gF (hs (fun m z => by cases z) 2) ?_
    refine' ex_gT (hs (fun m z => by cases z) 3) fun M => ?_
    rw [isTh_str, Bool.and_eq_true, decide_eq_true_eq] at hx
    refine ex_ret (strT hx.1 rfl (fun h => r_addS h) ?_) rfl
    exact ev_cb (ea_cons (ev_cb (ea_cons (ev_var rfl) ea_nil) (c_lenS (small (by omega)))) ea_nil) (c_strI (nat_log (by omega)))
  | tup l =>
    refine' ex_gF ?gh ?_
    case gh => walk_at "ev"
    refine' ex_gF (hs (fun m z => by cases z) 2) ?_
    refine' ex_gF (hs (fun m z => by cases z) 3) ?_
    obtain ⟨m, rfl, hx⟩ := isTh_tup hx
    refine ex_ret (tupT (R := R_text m) (E := E) (i := 1) hx hlen (fun o c h => by cases h) rfl fun x _ h1 h2 => ?_) rfl
    exact ev_call (ea_cons (ev_var rfl) ea_nil) (spP ⟨x, rfl, h1, h2, rfl⟩)
  | lst l => rw [isTh_lst] at hx; cases hx
  | ty m => cases n <;> cases hx
theorem ok__law_text (T : Txt K mg a d) : ∀ n, FnOk P w K mg base CX0 (2 + n) (a 32) (d 32) ["thing"] (spOf (R_text n))
  | 0 => ok__law_text1 T 0 ok_never
  | n + 1 => ok__law_text1 T (n + 1) (by rw [show 1 + (n + 1) = 2 + n by omega]; exact ok__law_text T n)
end
end K10
end
section
set_option maxRecDepth 100000
set_option maxHeartbeats 4000000
namespace K10
open PySem PySem.Spec PyProof.Rows L2 TLy TL NumText
/-! steps, one by one -/
local macro_rules | `(tactic| walk_at "ev") => `(tactic| first
  | exact ev_var rfl
  | exact ev_int
  | exact ev_str
  | exact ev_bl
  | exact ev_non
  | exact ev_ty
  | exact ea_nil
  | exact eo_none
  | exact r_add
  | exact r_sub
  | exact r_lt
  | exact r_le
  | exact r_gt
  | exact r_ge
  | exact r_eqI
  | exact r_neI
  | exact r_eqS
  | exact r_neS
  | exact r_leS
  | exact r_inSign
  | exact r_isN
  | exact r_notN
  | exact u_neg
  | exact c_intI
  | exact c_abs
  | exact c_ord
  | exact c_lenT
  | exact c_lenL
  | exact c_all
  | exact Nat.le_of_ble_eq_true rfl
  | exact c_tupL
  | exact c_lstL
  | exact c_lstT
  | exact u_slT
  | exact u_slL
  | exact tg_name
  | exact tgs_nil
  | ((with_reducible refine' ev_lenM ?_) <;> rfl)
  | ((with_reducible refine' ev_op ?_ ?_ ?_) <;> try walk_at "ev")
  | ((with_reducible refine' ev_un ?_ ?_) <;> try walk_at "ev")
  | ((with_reducible refine' ea_cons ?_ ?_) <;> try walk_at "ev")
  | ((with_reducible refine' eo_some ?_) <;> try walk_at "ev")
  | ((with_reducible refine' ev_cb ?_ ?_) <;> try walk_at "ev")
  | ((with_reducible refine' ev_sl ?_ ?_ ?_ ?_) <;> try walk_at "ev")
  | ((with_reducible refine' ev_chain ?_ ?_ ?_ ?_ ?_) <;> try walk_at "ev")
  | ((with_reducible refine' eb_test ?_) <;> try walk_at "ev")
  | ((with_reducible refine' eb_B ?_) <;> try walk_at "ev")
  | ((with_reducible refine' eb_not ?_) <;> try walk_at "ev")
  | ((with_reducible refine' eb_andP ?_ ?_) <;> try walk_at "ev")
  | ((with_reducible refine' eb_orP ?_ ?_) <;> try walk_at "ev")
  | ((with_reducible refine' ev_andP ?_ ?_) <;> try walk_at "ev")
  | ((with_reducible refine' ev_orP ?_ ?_) <;> try walk_at "ev")
  | ((with_reducible refine' ev_notP ?_) <;> try walk_at "ev")
  | ((with_reducible refine' ev_tup ?_ ?_) <;> try walk_at "ev")
  | ((with_reducible refine' ev_lst ?_ ?_) <;> try walk_at "ev")
  | ((with_reducible refine' ev_call ?_ ?_) <;> first | assumption | walk_at "ev" | skip)
  | ((with_reducible refine' tg_tup ?_ ?_) <;> try walk_at "ev")
  | ((with_reducible refine' tgs_cons ?_ ?_) <;> try walk_at "ev")
  | (refine' r_mul ?_)
  | (refine' r_modN ?_)
  | (refine' r_fdivN ?_)
  | (refine' r_pow ?_)
  | (refine' r_addS ?_)
  | (refine' r_catT ?_)
  | (refine' r_catL ?_)
  | (refine' r_ixT ?_)
  | (refine' r_ixL ?_)
  | (refine' r_ixS ?_ ?_ <;> first | exact len_sz (by omega) | exact at_get _ _ (by assumption) | skip)
  | (refine' u_slS ?_ <;> first | exact len_sz (by omega) | skip)
  | (refine' c_lenS ?_ <;> first | exact len_sz (by omega) | skip)
  | (refine' c_strI ?_)
  | (refine' c_intS ?_ ?_)
  | with_reducible exact isi_NB
  | with_reducible exact isi_NI
  | with_reducible exact isi_NS
  | with_reducible exact isi_NT
  | with_reducible exact isi_NL
  | with_reducible exact isi_BB
  | with_reducible exact isi_BI
  | with_reducible exact isi_BS
  | with_reducible exact isi_BT
  | with_reducible exact isi_BL
  | with_reducible exact isi_IB
  | with_reducible exact isi_II
  | with_reducible exact isi_IS
  | with_reducible exact isi_IT
  | with_reducible exact isi_IL
  | with_reducible exact isi_SB
  | with_reducible exact isi_SI
  | with_reducible exact isi_SS
  | with_reducible exact isi_ST
  | with_reducible exact isi_SL
  | with_reducible exact isi_TB
  | with_reducible exact isi_TI
  | with_reducible exact isi_TS
  | with_reducible exact isi_TT
  | with_reducible exact isi_TL
  | with_reducible exact isi_LB
  | with_reducible exact isi_LI
  | with_reducible exact isi_LS
  | with_reducible exact isi_LT
  | with_reducible exact isi_LL
  | (refine' r_eqD ?_ ?_ ?_ ?_)
  | (refine' r_neD ?_ ?_ ?_ ?_)
  | (intro _h; walk_at "ev"))

theorem numL_pos (n : Nat) : 1 ≤ (numL n).length := List.length_pos_iff.mpr (numL_ne n)
theorem numL_mono {a b : Nat} (h : a ≤ b) : (numL a).length ≤ (numL b).length := by
  have h1 := (len_le (n := b) (k := (numL b).length) (numL_pos b)).mp (Nat.le_refl _)
  exact (len_le (numL_pos b)).mpr (Nat.lt_of_le_of_lt h h1)
theorem numL_ds {ds : List Nat} (h0 : ds.length ≠ 0) (hd : ∀ c ∈ ds, dig c = true) : (numL (digitsVal ds)).length ≤ ds.length := (len_le (by omega)).mpr (digitsVal_lt ds hd)
theorem numAt_le {t : List Nat} {i j : Nat} {n : Int} (h : numAt t i = some (n, j)) : i + (intL n).length ≤ j := by
  unfold numAt at h
  by_cases c1 : t[i]? = some 45
  · simp only [if_pos c1] at h
    by_cases c : ((t.drop (i + 1)).takeWhile dig).length = 0 ∨ 200 < ((t.drop (i + 1)).takeWhile dig).length
    · rw [if_pos c] at h; cases h
    · rw [if_neg c] at h
      injection h with h
      injection h with ha hb
      have hd := numL_ds (ds := (t.drop (i + 1)).takeWhile dig) (by omega) (fun c hc => tw_all _ _ c hc)
      subst ha
      unfold intL
      split
      · rw [List.length_cons]
        have : (-(((digitsVal ((t.drop (i + 1)).takeWhile dig)) : Nat) : Int)).natAbs = digitsVal ((t.drop (i + 1)).takeWhile dig) := by omega
        rw [this]
        omega
      · rename_i hz
        have : (-(((digitsVal ((t.drop (i + 1)).takeWhile dig)) : Nat) : Int)).natAbs = digitsVal ((t.drop (i + 1)).takeWhile dig) := by omega
        rw [this]
        omega
  · simp only [if_neg c1] at h
    by_cases c : ((t.drop i).takeWhile dig).length = 0 ∨ 200 < ((t.drop i).takeWhile dig).length
    · rw [if_pos c] at h; cases h
    · rw [if_neg c] at h
      injection h with h
      injection h with ha hb
      have hd := numL_ds (ds := (t.drop i).takeWhile dig) (by omega) (fun c hc => tw_all _ _ c hc)
      subst ha
      unfold intL
      rw [if_neg (by omega)]
      have : (((digitsVal ((t.drop i).takeWhile dig)) : Nat) : Int).natAbs = digitsVal ((t.drop i).takeWhile dig) := by omega
      rw [this]
      omega
theorem strAt_le {t : List Nat} {i j : Nat} {s : List Nat} (h : strAt t i = some (s, j)) : i + ((numL s.length).length + 1 + s.length) ≤ j ∧ s.length ≤ 2000 := by
  unfold strAt at h
  cases hn : numAt t i with
  | none => rw [hn] at h; cases h
  | some p =>
    obtain ⟨m, k⟩ := p
    rw [hn] at h
    have h : (if t[k]? = some 58 ∧ 0 ≤ m ∧ m ≤ 2000 ∧ (k : Int) + 1 + m ≤ t.length then some ((t.drop (k + 1)).take m.toNat, k + 1 + m.toNat) else none) = some (s, j) := h
    have h1 := numAt_le hn
    split at h
    · rename_i hc
      injection h with h
      injection h with ha hb
      have hs : s.length ≤ m.toNat := by rw [← ha, List.length_take]; omega
      have h2 := numL_mono hs
      have h3 : intL m = numL m.toNat := by
        unfold intL
        rw [if_neg (by omega)]
        congr 1
        omega
      rw [h3] at h1
      omega
    · cases h
def Fit (rec : Nat → Option (PV × Nat)) : Prop := ∀ i x j, rec i = some (x, j) → i + (txt x).length ≤ j ∧ sz x = true
theorem szs_of : ∀ {l : List PV}, (∀ x ∈ l, sz x = true) → szs l = true
  | [], _ => rfl
  | a :: l, h => by
    show (sz a && szs l) = true
    rw [h a List.mem_cons_self, szs_of fun x hx => h x (List.mem_cons_of_mem _ hx)]
    rfl
theorem rLoop_fit {rec : Nat → Option (PV × Nat)} {t : List Nat} (hR : Fit rec) : ∀ (n i : Nat) (acc : List PV) (x : PV) (j : Nat), rLoop rec t n i acc = some (x, j) →
    ∃ ys, x = .tup (acc ++ ys) ∧ ys ≠ [] ∧ i + (joinC (txts ys)).length + 1 ≤ j ∧ ys.length ≤ n ∧ ∀ y ∈ ys, sz y = true
  | 0, _, _, _, _, h => by cases h
  | n + 1, i, acc, x, j, h => by
    have h : (match rec i with | none => none | some (x, j) => if t[j]? = some 44 then rLoop rec t n (j + 1) (acc ++ [x]) else if t[j]? = some 62 then some (.tup (acc ++ [x]), j + 1) else none) = some (x, j) := h
    cases hr : rec i with
    | none => rw [hr] at h; cases h
    | some p =>
      obtain ⟨y, k⟩ := p
      rw [hr] at h
      obtain ⟨h1, h2⟩ := hR i y k hr
      have h : (if t[k]? = some 44 then rLoop rec t n (k + 1) (acc ++ [y]) else if t[k]? = some 62 then some (.tup (acc ++ [y]), k + 1) else none) = some (x, j) := h
      by_cases c1 : t[k]? = some 44
      · rw [if_pos c1] at h
        obtain ⟨ys, e1, e2, e3, e4, e5⟩ := rLoop_fit hR n (k + 1) (acc ++ [y]) x j h
        refine ⟨y :: ys, by rw [e1, List.append_assoc]; rfl, by simp, ?_, by rw [List.length_cons]; omega, fun z hz => ?_⟩
        · have : joinC (txts (y :: ys)) = txt y ++ 44 :: joinC (txts ys) := joinC_cons _ _ (by
            intro z
            apply e2
            rw [txts_map] at z
            simpa using z)
          rw [this, List.length_append, List.length_cons]
          omega
        · rcases List.mem_cons.mp hz with rfl | hz
          · exact h2
          · exact e5 z hz
      · rw [if_neg c1] at h
        by_cases c2 : t[k]? = some 62
        · rw [if_pos c2] at h
          injection h with h
          injection h with ha hb
          refine ⟨[y], ha.symm, by simp, ?_, by simp, fun z hz => ?_⟩
          · show i + (txt y).length + 1 ≤ j
            omega
          · rw [List.mem_singleton.mp hz]
            exact h2
        · rw [if_neg c2] at h; cases h
theorem tNode_fit {t : List Nat} {tup : Nat → Option (PV × Nat)} (hT : Fit tup) : Fit (tNode t tup) := fun i x j h => by
  unfold tNode at h
  by_cases c1 : t[i]? = some 63
  · rw [if_pos c1] at h
    injection h with h
    injection h with ha hb
    subst ha
    exact ⟨by show i + 1 ≤ j; omega, rfl⟩
  · rw [if_neg c1] at h
    by_cases c2 : t[i]? = some 61
    · rw [if_pos c2] at h
      cases hs : strAt t (i + 1) with
      | none => rw [hs] at h; cases h
      | some p =>
        obtain ⟨s, k⟩ := p
        rw [hs] at h
        injection h with h
        injection h with ha hb
        obtain ⟨h1, h2⟩ := strAt_le hs
        have ha : PV.str (S s) = x := ha
        have hb : k = j := hb
        subst ha
        refine ⟨?_, decide_eq_true (by rw [S_len]; omega)⟩
        show i + (61 :: (numL (S s).length ++ 58 :: s)).length ≤ j
        rw [S_len, List.length_cons, List.length_append, List.length_cons]
        omega
    · rw [if_neg c2] at h
      by_cases c3 : t[i]? = some 60
      · rw [if_pos c3] at h
        exact hT i x j h
      · rw [if_neg c3] at h
        cases hs : numAt t i with
        | none => rw [hs] at h; cases h
        | some p =>
          obtain ⟨n, k⟩ := p
          rw [hs] at h
          injection h with h
          injection h with ha hb
          have h1 := numAt_le hs
          have ha : PV.int n = x := ha
          have hb : k = j := hb
          subst ha
          exact ⟨by show i + (intL n).length ≤ j; omega, rfl⟩
theorem tAt_fit {t : List Nat} (ht : t.length ≤ 60000) : ∀ d, Fit (tAt t d)
  | 0 => tNode_fit fun i x j h => by cases h
  | d + 1 => tNode_fit fun i x j h => by
    have h : (if t[i + 1]? = some 62 then some (PV.tup [], i + 2) else rLoop (tAt t d) t (t.length + 1) (i + 1) []) = some (x, j) := h
    by_cases c : t[i + 1]? = some 62
    · rw [if_pos c] at h
      injection h with h
      injection h with ha hb
      subst ha
      exact ⟨by show i + 2 ≤ j; omega, by decide⟩
    · rw [if_neg c] at h
      obtain ⟨ys, e1, e2, e3, e4, e5⟩ := rLoop_fit (tAt_fit ht d) _ _ _ _ _ h
      subst e1
      refine ⟨?_, ?_⟩
      · show i + (60 :: (joinC (txts ([] ++ ys)) ++ [62])).length ≤ j
        rw [List.nil_append, List.length_cons, List.length_append]
        show i + ((joinC (txts ys)).length + 1 + 1) ≤ j
        omega
      · show (decide (([] ++ ys).length ≤ 70000) && szs ([] ++ ys)) = true
        rw [List.nil_append, decide_eq_true (by omega), szs_of e5]
        rfl
end K10
end
section
set_option maxRecDepth 100000
set_option maxHeartbeats 4000000
namespace K10
open PySem PySem.Spec PyProof.Rows L2 TLy TL NumText
/-! steps, one by one -/
local macro_rules | `(tactic| walk_at "ev") => `(tactic| first
  | exact ev_var rfl
  | exact ev_int
  | exact ev_str
  | exact ev_bl
  | exact ev_non
  | exact ev_ty
  | exact ea_nil
  | exact eo_none
  | exact r_add
  | exact r_sub
  | exact r_lt
  | exact r_le
  | exact r_gt
  | exact r_ge
  | exact r_eqI
  | exact r_neI
  | exact r_eqS
  | exact r_neS
  | exact r_leS
  | exact r_inSign
  | exact r_isN
  | exact r_notN
  | exact u_neg
  | exact c_intI
  | exact c_abs
  | exact c_ord
  | exact c_lenT
  | exact c_lenL
  | exact c_all
  | exact Nat.le_of_ble_eq_true rfl
  | exact c_tupL
  | exact c_lstL
  | exact c_lstT
  | exact u_slT
  | exact u_slL
  | exact tg_name
  | exact tgs_nil
  | ((with_reducible refine' ev_lenM ?_) <;> rfl)
  | ((with_reducible refine' ev_op ?_ ?_ ?_) <;> try walk_at "ev")
  | ((with_reducible refine' ev_un ?_ ?_) <;> try walk_at "ev")
  | ((with_reducible refine' ea_cons ?_ ?_) <;> try walk_at "ev")
  | ((with_reducible refine' eo_some ?_) <;> try walk_at "ev")
  | ((with_reducible refine' ev_cb ?_ ?_) <;> try walk_at "ev")
  | ((with_reducible refine' ev_sl ?_ ?_ ?_ ?_) <;> try walk_at "ev")
  | ((with_reducible refine' ev_chain ?_ ?_ ?_ ?_ ?_) <;> try walk_at "ev")
  | ((with_reducible refine' eb_test ?_) <;> try walk_at "ev")
  | ((with_reducible refine' eb_B ?_) <;> try walk_at "ev")
  | ((with_reducible refine' eb_not ?_) <;> try walk_at "ev")
  | ((with_reducible refine' eb_andP ?_ ?_) <;> try walk_at "ev")
  | ((with_reducible refine' eb_orP ?_ ?_) <;> try walk_at "ev")
  | ((with_reducible refine' ev_andP ?_ ?_) <;> try walk_at "ev")
  | ((with_reducible refine' ev_orP ?_ ?_) <;> try walk_at "ev")
  | ((with_reducible refine' ev_notP ?_) <;> try walk_at "ev")
  | ((with_reducible refine' ev_tup ?_ ?_) <;> try walk_at "ev")
  | ((with_reducible refine' ev_lst ?_ ?_) <;> try walk_at "ev")
  | ((with_reducible refine' ev_call ?_ ?_) <;> first | assumption | walk_at "ev" | skip)
  | ((with_reducible refine' tg_tup ?_ ?_) <;> try walk_at "ev")
  | ((with_reducible refine' tgs_cons ?_ ?_) <;> try walk_at "ev")
  | (refine' r_mul ?_)
  | (refine' r_modN ?_)
  | (refine' r_fdivN ?_)
  | (refine' r_pow ?_)
  | (refine' r_addS ?_)
  | (refine' r_catT ?_)
  | (refine' r_catL ?_)
  | (refine' r_ixT ?_)
  | (refine' r_ixL ?_)
  | (refine' r_ixS ?_ ?_ <;> first | exact len_sz (by omega) | exact at_get _ _ (by assumption) | skip)
  | (refine' u_slS ?_ <;> first | exact len_sz (by omega) | skip)
  | (refine' c_lenS ?_ <;> first | exact len_sz (by omega) | skip)
  | (refine' c_strI ?_)
  | (refine' c_intS ?_ ?_)
  | with_reducible exact isi_NB
  | with_reducible exact isi_NI
  | with_reducible exact isi_NS
  | with_reducible exact isi_NT
  | with_reducible exact isi_NL
  | with_reducible exact isi_BB
  | with_reducible exact isi_BI
  | with_reducible exact isi_BS
  | with_reducible exact isi_BT
  | with_reducible exact isi_BL
  | with_reducible exact isi_IB
  | with_reducible exact isi_II
  | with_reducible exact isi_IS
  | with_reducible exact isi_IT
  | with_reducible exact isi_IL
  | with_reducible exact isi_SB
  | with_reducible exact isi_SI
  | with_reducible exact isi_SS
  | with_reducible exact isi_ST
  | with_reducible exact isi_SL
  | with_reducible exact isi_TB
  | with_reducible exact isi_TI
  | with_reducible exact isi_TS
  | with_reducible exact isi_TT
  | with_reducible exact isi_TL
  | with_reducible exact isi_LB
  | with_reducible exact isi_LI
  | with_reducible exact isi_LS
  | with_reducible exact isi_LT
  | with_reducible exact isi_LL
  | (refine' r_eqD ?_ ?_ ?_ ?_)
  | (refine' r_neD ?_ ?_ ?_ ?_)
  | (intro _h; walk_at "ev"))

section
variable {P : Program} {w : World} {K : PySem.W.Frag} {mg : Str → Option Value} {base : Heap} {a : Nat → Addr} {d : Nat → FuncData}
def resx (C : Addr) : Option PV → Sum PV Er
  | none => .inr ⟨C, none⟩
  | some x => .inl x
def R_thing_of_text (C : Addr) : List PV → Sum PV Er → Prop := fun xs y => ∃ t : List Nat, xs = [.str (S t)] ∧ t.length ≤ 60000 ∧ y = resx C (readT t)
theorem ok_thing_of_text (T : Txt K mg a d) : FnOk P w K mg base (L2.CX P w) 25 (a 19) (d 19) ["text"] (spOfE (R_thing_of_text (a 2))) := by
  refine ok_err T.thing_of_text.F sc_thing_of_text (fun xs y h => by obtain ⟨t, rfl, _⟩ := h; rfl) (by decide) (fun cdv A outer s H E hr xs y h => ?_)
  obtain ⟨t, rfl, hl, rfl⟩ := h
  obtain ⟨_, c_DEEP⟩ := T.c_DEEP
  have ih_thing_at := ok_thing_at (P := P) (w := w) (base := base) T 20
  have ih_is_thing_in := ok_is_thing_in (P := P) (w := w) (base := base) T 20
  have ih_text_in := ok_text_in (P := P) (w := w) (base := base) T 20
  refine ⟨_, (pss_cons (ps_asg (pe_call ih_thing_at (hr.mono (by first | decide | omega)) (by rfl) T.thing_at.g T.thing_at.F.kp T.thing_at.b .nil (passes_call (takes_of rfl rfl rfl rfl) (fun _ _ _ _ z => z)) (pa_cons (pv 0) (pa_cons pe_int (pa_cons (pe_glob (v := .int 20) (by rfl) c_DEEP ⟨_, rfl⟩) pa_nil)))) (pg_tup (by rfl) (pgs_cons (pg_name (i := 1) sc_thing_of_text.nd rfl (by first | exact Or.inl rfl | exact Or.inr rfl)) (pgs_cons (pg_name (i := 2) sc_thing_of_text.nd rfl (by first | exact Or.inl rfl | exact Or.inr rfl)) pgs_nil))))
      (pss_cons (ps_if (PW.pt (pw_or (pt_cmpR op_ne (pv 2) (pe_callB call_len (by rfl) T.n_len (by decide +kernel) (pa_cons (pv 0) pa_nil)) (nomark _)) (pw_or (pt_not (pt_val (pe_call ih_is_thing_in (hr.mono (by first | decide | omega)) (by rfl) T.is_thing_in.g T.is_thing_in.F.kp T.is_thing_in.b .nil pass0 (pa_cons (pv 1) (pa_cons (pe_glob (v := .int 20) (by rfl) c_DEEP ⟨_, rfl⟩) pa_nil))))) (pw_or1 (pt_cmpR op_ne (pe_call ih_text_in (hr.mono (by first | decide | omega)) (by rfl) T.text_in.g T.text_in.F.kp T.text_in.b .nil pass0 (pa_cons (pv 1) pa_nil)) (pv 0) (nomark _)))))) (pss_one (ps_expr (pe_call0 (ok_bad T) (hr.mono (by first | decide | omega)) (by rfl) T.bad.g T.bad.F.kp T.bad.b .nil (passes_call (takes_of rfl rfl rfl rfl) (fun _ _ _ _ z => z))))) pss_nil)
      (pss_one (ps_ret (pv 1))))), ?_⟩
  show Exec E _ [some (.val (.str (S t))), none, none] _
  have hA : EvA (tCons (tVar 0) (tCons (tC (.int 0)) (tCons (tC (.int 20)) tNil))) [some (.val (.str (S t))), none, none] [.str (S t), .int ((0 : Nat) : Int), .int ((20 : Nat) : Int)] [some (.val (.str (S t))), none, none] := ea_cons (ev_var rfl) (ea_cons ev_int (ea_cons ev_int ea_nil))
  cases hn : tAt t 20 0 with
  | none =>
    refine' ex_seq (fun _ => False) (ex_asgE (ee_call hA (spEe (x := ⟨a 2, none⟩) ⟨t, 0, rfl, by omega, by rw [hn]; rfl⟩)) ?_) (fun _ z => z.elim)
    show resx _ _ = _
    unfold readT
    rw [hn]
    rfl
  | some p =>
    obtain ⟨x, j⟩ := p
    obtain ⟨hj, hz⟩ := tAt_fit hl 20 0 x j hn
    have hs : readT t = if j = t.length ∧ isTh 20 x = true ∧ txt x = t then some x else none := by
      unfold readT
      rw [hn]
    refine' ex_seq1 (ex_asg (x := .tup [x, .int j]) (τ1 := [some (.val (.str (S t))), none, none]) (τ2 := [some (.val (.str (S t))), some (.val x), some (.val (.int j))]) (ev_call hA (spEv ⟨t, 0, rfl, by omega, by rw [hn]; rfl⟩)) ?_ rfl) ?_
    · exact tg_tup (tgs_cons tg_name (tgs_cons tg_name tgs_nil)) rfl
    refine' ex_guard (b := !decide (j = t.length) || (!(isTh 20 x) || !decide (txt x = t))) ?ht (fun z M => ?_) (fun z => ?_)
    case ht =>
      refine' eb_orP (eb_is ?h1 ?e1) (fun z1 => eb_orP (eb_not (eb_B ?h2)) (fun z2 => eb_is ?h3 ?e3))
      case h1 => walk_at "ev"
      case e1 =>
        rw [S_len]
        congr 1
        rw [Bool.eq_iff_iff, decide_eq_true_eq, decide_eq_true_eq]
        omega
      case h2 => exact ev_call (ea_cons (ev_var rfl) (ea_cons (ev_is (x := .int ((20 : Nat) : Int)) ev_int rfl) ea_nil)) (spP ⟨x, rfl, hz, rfl⟩)
      case h3 =>
        refine eb_test (ev_op (ev_call (ea_cons (ev_var rfl) ea_nil) (spP ⟨x, rfl, by simpa using z2, ?_, rfl⟩)) (ev_var rfl) r_neS)
        have : j = t.length := by simpa using z1
        omega
      case e3 => exact congrArg (!·) (q_S rfl)
    · refine ex_dropE ee_bad ?_
      show resx _ _ = _
      rw [hs, if_neg]
      · rfl
      · intro ⟨q1, q2, q3⟩
        simp [q1, q2, q3] at z
    · have hc : j = t.length ∧ isTh 20 x = true ∧ txt x = t := by
        simp only [Bool.or_eq_false_iff, Bool.not_eq_false', decide_eq_true_eq] at z
        exact ⟨z.1, z.2.1, z.2.2⟩
      refine ex_ret (ev_var rfl) ?_
      show resx _ _ = _
      rw [hs, if_pos hc]
      rfl
def R_need_thing (C : Addr) : List PV → Sum PV Er → Prop := fun xs y => ∃ x : PV, xs = [x] ∧ sz x = true ∧ y = if isTh 20 x = true then .inl .non else .inr ⟨C, none⟩
theorem ok_need_thing (T : Txt K mg a d) : FnOk P w K mg base (L2.CX P w) 24 (a 20) (d 20) ["value"] (spOfE (R_need_thing (a 3))) := by
  refine ok_err T.need_thing.F sc_need_thing (fun xs y h => by obtain ⟨t, rfl, _⟩ := h; rfl) (by decide) (fun cdv A outer s H E hr xs y h => ?_)
  obtain ⟨x, rfl, hz, rfl⟩ := h
  obtain ⟨_, c_DEEP⟩ := T.c_DEEP
  have ih_is_thing_in := ok_is_thing_in (P := P) (w := w) (base := base) T 20
  refine ⟨_, (pss_one (ps_if (pt_not (pt_val (pe_call ih_is_thing_in (hr.mono (by first | decide | omega)) (by rfl) T.is_thing_in.g T.is_thing_in.F.kp T.is_thing_in.b .nil pass0 (pa_cons (pv 0) (pa_cons (pe_glob (v := .int 20) (by rfl) c_DEEP ⟨_, rfl⟩) pa_nil))))) (pss_one (ps_raise rfl (takes_of rfl rfl rfl rfl) (pmk_own PySem.F.excBase_ValueError T.InvalidSort.x T.InvalidSort.g T.InvalidSort.k (raises_own T.InvalidSort.b T.InvalidSort.t) rfl))) pss_nil)), ?_⟩
  show Exec E _ [some (.val x)] _
  refine ex_if (b := !isTh 20 x) (eb_not (eb_B (ev_call (ea_cons (ev_var rfl) (ea_cons (ev_is (x := .int ((20 : Nat) : Int)) ev_int rfl) ea_nil)) (spP ⟨x, rfl, hz, rfl⟩)))) (fun z => ?_) (fun z => ?_)
  · refine ex_raise ?_
    show _ = _
    rw [if_neg (by simpa using z)]
  · refine ex_next ?_
    show _ = _
    rw [if_pos (by simpa using z)]
def R_is_thing : List PV → PV → Prop := fun xs y => ∃ x : PV, xs = [x] ∧ sz x = true ∧ y = .bl (isTh 20 x)
theorem ok_is_thing (T : Txt K mg a d) : FnOk P w K mg base CX0 24 (a 21) (d 21) ["value"] (spOf R_is_thing) := by
  refine ok_pure T.is_thing.F sc_is_thing (fun xs y h => by obtain ⟨t, rfl, _⟩ := h; rfl) (by decide) (fun cdv A outer s H E hr xs y h => ?_)
  obtain ⟨x, rfl, hz, rfl⟩ := h
  obtain ⟨_, c_DEEP⟩ := T.c_DEEP
  have ih_is_thing_in := ok_is_thing_in (P := P) (w := w) (base := base) T 20
  refine ⟨_, (pss_one (ps_ret (pe_call ih_is_thing_in (hr.mono (by first | decide | omega)) (by rfl) T.is_thing_in.g T.is_thing_in.F.kp T.is_thing_in.b .nil pass0 (pa_cons (pv 0) (pa_cons (pe_glob (v := .int 20) (by rfl) c_DEEP ⟨_, rfl⟩) pa_nil))))), ?_⟩
  show Exec E _ [some (.val x)] _
  exact ex_ret (ev_call (ea_cons (ev_var rfl) (ea_cons (ev_is (x := .int ((20 : Nat) : Int)) ev_int rfl) ea_nil)) (spP ⟨x, rfl, hz, rfl⟩)) rfl
/-- what read_thing answers -/
def readV : PV → Option PV
  | .str s => if s.length ≤ 60000 then readT s.cps.toList else none
  | _ => none
def R_read_thing (C : Addr) : List PV → Sum PV Er → Prop := fun xs y => ∃ x : PV, xs = [x] ∧ (∀ m, x ≠ .ty m) ∧ (∀ s, x = .str s → s.length ≤ 1000000) ∧ y = resx C (readV x)
theorem ok_read_thing (T : Txt K mg a d) : FnOk P w K mg base (L2.CX P w) 26 (a 23) (d 23) ["text"] (spOfE (R_read_thing (a 2))) := by
  refine ok_err T.read_thing.F sc_read_thing (fun xs y h => by obtain ⟨t, rfl, _⟩ := h; rfl) (by decide) (fun cdv A outer s H E hr xs y h => ?_)
  obtain ⟨x, rfl, hx, hz, rfl⟩ := h
  obtain ⟨_, c_LONG⟩ := T.c_LONG
  refine ⟨_, (pss_cons (ps_if (PW.pt (pw_or (pt_not (pt_val (pe_callB call_isi (by rfl) T.n_isinstance (by decide +kernel) (pa_cons (pv 0) (pa_cons (pe_bltn (v := .ty "str") (by rfl) T.n_str (by decide +kernel) rfl) pa_nil))))) (pw_or1 (pt_cmpR op_gt (pe_callB call_len (by rfl) T.n_len (by decide +kernel) (pa_cons (pv 0) pa_nil)) (pe_glob (v := .int 60000) (by rfl) c_LONG ⟨_, rfl⟩) (nomark _))))) (pss_one (ps_expr (pe_call0 (ok_bad T) (hr.mono (by first | decide | omega)) (by rfl) T.bad.g T.bad.F.kp T.bad.b .nil (passes_call (takes_of rfl rfl rfl rfl) (fun _ _ _ _ z => z))))) pss_nil)
      (pss_one (ps_ret (pe_call (ok_thing_of_text T) (hr.mono (by first | decide | omega)) (by rfl) T.thing_of_text.g T.thing_of_text.F.kp T.thing_of_text.b .nil (passes_call (takes_of rfl rfl rfl rfl) (fun _ _ _ _ z => z)) (pa_cons (pv 0) pa_nil))))), ?_⟩
  show Exec E _ [some (.val x)] _
  by_cases hs : ∃ s, x = .str s
  · obtain ⟨z, rfl⟩ := hs
    have hz := hz z rfl
    refine' ex_guard (b := !true || decide ((60000 : Int) < (z.length : Int))) ?ht (fun q M => ?_) (fun q => ?_)
    case ht =>
      refine eb_orP (eb_not (eb_B (ev_cb (ea_cons (ev_var rfl) (ea_cons ev_ty ea_nil)) isi_SS))) fun _ => ?_
      exact eb_test (ev_op (ev_cb (ea_cons (ev_var rfl) ea_nil) (c_lenS (small hz))) ev_int r_gt)
    · refine ex_dropE ee_bad ?_
      show resx _ (readV (.str z)) = _
      have q : decide ((60000 : Int) < (z.length : Int)) = true := q
      rw [decide_eq_true_eq] at q
      show resx _ (if z.length ≤ 60000 then _ else _) = _
      rw [if_neg (by omega)]
      rfl
    · have q : decide ((60000 : Int) < (z.length : Int)) = false := q
      rw [decide_eq_false_iff_not] at q
      have hl : z.cps.toList.length ≤ 60000 := by
        have el : z.cps.toList.length = z.length := by simp [Str.length]
        omega
      have hR : R_thing_of_text (a 2) [.str z] (resx (a 2) (readT z.cps.toList)) := ⟨z.cps.toList, by rw [← S_of], hl, rfl⟩
      have hv : readV (.str z) = readT z.cps.toList := if_pos (by omega)
      cases hn : readT z.cps.toList with
      | none =>
        rw [hn] at hR hv
        refine ex_retE (ee_call (ea_cons (ev_var rfl) ea_nil) (spEe hR)) ?_
        show resx _ _ = _
        rw [hv]
        rfl
      | some v =>
        rw [hn] at hR hv
        refine ex_ret (ev_call (ea_cons (ev_var rfl) ea_nil) (spEv hR)) ?_
        show resx _ _ = _
        rw [hv]
        rfl
  · refine ex_guard (τ1 := [some (.val x)]) (b := !false || true) ?_ (fun q M => ex_dropE ee_bad ?_) (fun q => by cases q)
    · refine eb_orP (b := !false) (c := true) (eb_not (eb_B (ev_cb (ea_cons (ev_var rfl) (ea_cons ev_ty ea_nil)) ?_))) fun z => Bool.noConfusion z
      cases x with
      | non => exact isi_NS
      | bl b => exact isi_BS
      | int b => exact isi_IS
      | str b => exact absurd ⟨b, rfl⟩ hs
      | ty m => exact absurd rfl (hx m)
      | tup b => exact isi_TS
      | lst b => exact isi_LS
    · show resx _ (readV x) = _
      cases x with
      | str b => exact absurd ⟨b, rfl⟩ hs
      | _ => rfl
end
end K10
end
section
set_option maxRecDepth 100000
set_option maxHeartbeats 2000000
/-! an own exception over an own base of ValueError: super().__init__(..), then more -/
namespace TLy
open PySem PySem.Spec PyProof.Rows L2 PySem.W
/-! ### ValueError.__init__ bound -/
section
variable {prog : Program} {w : World} {A : Around} {E : Value → Shared → Prop} {h : Heap} {g : Array GenState} {d : Drawn} {t : Nat} {os : OsState}
variable {nm q : Str} {C N : Addr} {bs bm : List Value} {hdct : Bool} {sn : List Str} {sub : List Value} {ab : Bool} {col : Option Bool} {dd : Option Addr} {k0 k1 k2 k3 k5 : Option Value}
theorem call_mw {u e t0 : Addr} {rest : List Value} {Q : Value → Shared → Prop}
    (hC : h.get? C = some (excClassObj nm q C N bs bm hdct sn sub ab col dd k0 k1 k2 k3 k5 "ValueError.__new__")) (he : h.get? e = some (PySem.HandSPX.excO C t0)) (hu : h.get? u = some (kxs_mw "ValueError.__init__" e)) (hrest : rest.length ≤ sizeLine)
    (hq : ∀ h' t1, (∀ b o, b ≠ e → h.get? b = some o → h'.get? b = some o) → h'.get? e = some (PySem.HandSPX.excO C t1) → Q .none ⟨h', g, d, t, os⟩) :
    wpAny (model prog w) A (call (.ref u) rest) Q E ⟨h, g, d, t, os⟩ := by
  refine wpAny_call (codeAny_of_tree ?_)
  show wpAny _ A.in1 (callAny (.ref u) ⟨rest, []⟩) _ _ _
  simp only [callAny]
  refine wpAny_bind (wpAny_load hu ?_)
  simp only [kxs_mw, show (Value.type "method-wrapper" == Value.type "method" || Value.type "method-wrapper" == Value.type "builtin_function_or_method" || Value.type "method-wrapper" == Value.type "method-wrapper") = true by decide, if_true]
  refine PySem.W.KFB.if_so (by decide) ?_
  refine wpAny_bind (PySem.ESX.check_bound F.excBase_ValueError hC he rfl ?_)
  refine wpAny_bind (wpAny_pure (wpAny_pure ?_))
  refine ⟨Code.quiet_builtin _ (by decide +kernel), codeAny_builtin F.excBase_ValueError.initEntry ?_⟩
  rw [Around.under_plainId F.excBase_ValueError.init.plain _]
  wp_walk
  refine hq _ h.objs.size (fun b o hb ho => ?_) ?_
  · rw [Heap.get?_update_other _ _ (Ne.symm hb)]
    exact Heap.get?_push_of_some _ ho
  · rw [Heap.get?_update_self _ (Heap.get?_push_of_some _ he) rfl]
    rfl
end
/-! ### the context -/
structure SupScope (N P : List Str) (sc : Scope) : Prop where
  kind : sc.kind = .function
  co : sc.isCoroutine = false
  gen : sc.isGenerator = false
  nd : N.Nodup
  pre : N.take P.length = P
  par : ∀ x ∈ P, sc.names.lookup x = some .local
  nocell : ∀ y ∈ sc.names, y.2 ≠ .cell
  free : ∀ y ∈ sc.names, y.2 = .free → y.1 = "__class__"
def supCx (CX : CXT) (P : Program) (w : World) (K : PySem.W.Frag) (mg : Str → Option Value) (base : Heap) (N : List Str) (qual : Str) (scope : Scope) (f : Addr) (cd : Value) (cc : Addr) (A : Around) (outer : List Env) (s : Shared) (H : Hp) (E : XK) : Cx where
  prog := P
  w := w
  K := K
  mg := mg
  base := base
  A := A.deeper (ksEnv qual scope s.heap.objs.size f cd cc)
  N := N
  s_0 := s
  H_0 := H
  env := ksEnv qual scope s.heap.objs.size f cd cc
  outer := outer
  stack := ksEnv qual scope s.heap.objs.size f cd cc :: outer
  ex := []
  calm := true
  fn := fun _ => false
  pn := []
  xe := fun e s' => wpAny (model P w) (A.deeper (ksEnv qual scope s.heap.objs.size f cd cc)) (leaving (ksEnv qual scope s.heap.objs.size f cd cc) e) (fun _ s'' => CX outer H s E e s'') (fun e' s'' => CX outer H s E e' s'') s'
theorem lookup_mem {α : Type} : ∀ {l : List (Str × α)} {y : Str} {u : α}, (l.map (·.1)).Nodup → (y, u) ∈ l → l.lookup y = some u
  | (a, b) :: l, y, u, hn, h => by
    rw [List.map_cons, List.nodup_cons] at hn
    rcases List.mem_cons.mp h with e | hm
    · injection e with e1 e2
      subst e1
      subst e2
      simp [List.lookup]
    · have : (y == a) = false := by
        rw [beq_eq_false_iff_ne]
        intro z
        subst z
        exact hn.1 (List.mem_map.mpr ⟨(y, u), hm, rfl⟩)
      simp only [List.lookup, this]
      exact lookup_mem hn.2 hm
section
variable {CX : CXT} {P : Program} {w : World} {K : PySem.W.Frag} {mg : Str → Option Value} {base : Heap} {N ps : List Str} {qual : Str} {scope : Scope} {f cc : Addr} {cd : Value} {A : Around} {outer : List Env} {s : Shared} {H : Hp} {E : XK} {us : List Value} {vs : List V}
theorem sup_start {h₁ : Heap} {tk : Nat} {D : Addr} {cl : Value} {cld : Option Addr} {csl : Array (Option Value)} (S : SupScope N ps scope) (hd : A.handled = none) (e0 : Env0 P w K mg base A outer s H) (hl : vs.length = ps.length) (r : Vals vs us)
    (hcell : K.lookup cc = some ⟨cl, cld, .cell (some (.ref D)), csl⟩) (hkc : scope.names.lookup ("__class__" : Str) = some .free)
    (hns : h₁.Ns s.heap.objs.size (fun y => (ps.zip us).reverse.lookup y)) (kp : ∀ b o, s.heap.get? b = some o → h₁.get? b = some o) :
    Inv (supCx CX P w K mg base N qual scope f cd cc A outer s H E) [] (L2.start N vs) H { s with heap := h₁, toks := tk } := by
  have hpl : ps.length ≤ N.length := by have := congrArg List.length S.pre; rw [List.length_take] at this; omega
  have KX : K.In s.heap := e0.mod.kin.keeps fun b o e => (e0.bs b o e).1
  have ndP : ps.Nodup := by rw [← S.pre]; exact S.nd.sublist (List.take_sublist _ _)
  have hul : us.length = ps.length := by rw [← r.length]; exact hl
  have noA : ∀ b : Addr, b ∉ (supCx CX P w K mg base N qual scope f cd cc A outer s H E).ex := fun b z => absurd (show b ∈ ([] : List Addr) from z) (by simp)
  have hc1 : ∀ y c, (supCx CX P w K mg base N qual scope f cd cc A outer s H E).env.cells.lookup y = some c → y = "__class__" ∧ c = cc := fun y c h => by
    have h : ([((("__class__" : Str)), cc)] : List (Str × Addr)).lookup y = some c := h
    by_cases hy : y = "__class__"
    · subst hy
      have e : ([((("__class__" : Str)), cc)] : List (Str × Addr)).lookup (Str.ofString "__class__") = some cc := by simp [List.lookup]
      rw [e] at h
      exact ⟨rfl, (Option.some.inj h).symm⟩
    · have hb : (y == ("__class__" : Str)) = false := by simpa using hy
      simp only [List.lookup, hb] at h
      cases h
  refine ⟨⟨e0.mod, S.kind, rfl, rfl, Nat.le_refl _, fun y z c h1 h2 => ?_, fun y hy => ?_, fun y c z _ => ?_, fun _ => hd, Around.frames_deeper e0.frames, .inr ⟨rfl, rfl⟩, fun b z => absurd z (noA b), e0.bs, e0.bsz, fun b _ _ => noA b, fun b z => absurd z (noA b), e0.funs, e0.frf⟩,
    rfl, e0.bare, Un.kept kp, ⟨_, hns, fun i y v h1 h2 h3 => ?_⟩, fun y c h => ?_, e0.hok.fresh (Nat.le_refl _), fun y c h => ?_, fun p hp => absurd (show p ∈ ([] : List (Addr × Obj)) from hp) (by simp), e0.hok.kept kp, ?_⟩
  · rw [(hc1 _ _ h1).1, (hc1 _ _ h2).1]
  · have hy : scope.names.lookup y = some .cell ∨ scope.names.lookup y = some .free := hy
    rcases hy with hy | hy
    · exact absurd rfl (S.nocell _ (PySem.mem_of_lookup hy))
    · have e := S.free _ (PySem.mem_of_lookup hy) rfl
      have e : y = "__class__" := e
      subst e
      exact ⟨cc, by show ([((("__class__" : Str)), cc)] : List (Str × Addr)).lookup (Str.ofString "__class__") = some cc; simp [List.lookup]⟩
  · cases (show false = true from z)
  · have hi : i < vs.length := by
      unfold L2.start at h2
      by_cases hi : i < vs.length
      · exact hi
      · rw [List.getElem?_append_right (by simpa using hi)] at h2
        rw [List.getElem?_replicate] at h2
        split at h2 <;> cases h2
    have ha : vs[i]? = some v := by
      unfold L2.start at h2
      rw [List.getElem?_append_left (by simpa using hi), List.getElem?_map] at h2
      cases e : vs[i]? with
      | none => rw [e] at h2; cases h2
      | some a => rw [e] at h2; cases h2; rfl
    obtain ⟨u, hu, rv⟩ := r.get ha
    have hp : ps[i]? = some y := by
      rw [← S.pre, List.getElem?_take_of_lt (by omega)]; exact h1
    refine ⟨u, rv, .inl ⟨S.par y (List.mem_of_getElem? hp), ?_⟩⟩
    refine lookup_mem ?_ ?_
    · rw [List.map_reverse, List.map_fst_zip (by omega)]
      exact List.pairwise_reverse.mpr (ndP.imp fun h => Ne.symm h)
    · rw [List.mem_reverse]
      refine List.mem_of_getElem? (i := i) ?_
      rw [List.getElem?_zip_eq_some]
      exact ⟨hp, hu⟩
  · rw [(hc1 _ _ h).2]
    exact ⟨_, _, kp _ _ (KX _ _ hcell), rfl⟩
  · rw [(hc1 _ _ h).2]
    exact (e0.bs _ _ (e0.mod.kin _ _ hcell)).2
  · unfold L2.start
    show _ = N.length
    rw [List.length_append, List.length_map, List.length_replicate]
    omega
end
theorem boot_super : bootBuiltins "super" = some (.type "super") := by first | exact Boot.«super» | kernel_rfl
/-- what the written part says of an __init__ that says super() -/
structure SupF (P : Program) (K : PySem.W.Frag) (mg : Str → Option Value) (N : List Str) (params : Arguments) (scope : Scope) (cda cc D : Addr) : Prop where
  code : ∃ (ccl : Value) (cdd : Option Addr) (vs : Array Value) (ccs : Array (Option Value)) (file : Str) (tf : Tok), K.lookup cda = some ⟨ccl, cdd, .fields vs, ccs⟩ ∧ vs[2]? = some (.str file tf) ∧ ((P.main.file : Str) == file) = true
  cell : ∃ (cl : Value) (cld : Option Addr) (csl : Array (Option Value)), K.lookup cc = some ⟨cl, cld, .cell (some (.ref D)), csl⟩
  cls : ∃ cd, clsIn K D = some cd
  noSup : mg "super" = none
  head : ∃ ar : Arg, (params.posonlyargs ++ params.args).head? = some ar ∧ N[0]? = some ar.arg
  hks : scope.names.lookup ("super" : Str) = some .globalImplicit
  hkc : scope.names.lookup ("__class__" : Str) = some .free
  htop : (P.main.scope.names.lookup ("super" : Str)).isSome = false
  opq : nsIn K cStatics "thirdparty.any" = some none
theorem fn_sup {CX : CXT} {P : Program} {w : World} {K : PySem.W.Frag} {mg : Str → Option Value} {base : Heap} {k : Nat} {f cda cc D : Addr} {name qual : Str} {params : Arguments} {rest : List Stmt} {scope : Scope} {dV kV doc pm ct oc : Value} {an od : Option Addr}
    {osl : Array (Option Value)} {N ps : List Str} {sp : Sp} {e : Expr} {es : List Expr} {p0 p1 p2 p3 p4 : Pos} {pl : Env → Sem Bool} (lk : K.lookup f = some ⟨oc, od, .func (ksFn name qual params (.Expr (.Call (.Attribute (.Call (.Name "super" p0) [] [] p1) "__init__" p2) (e :: es) [] p3) p4 :: rest) scope dV kV doc pm an (.ref cda) ct cc), osl⟩)
    (hcd : PySem.W.codeIn K (.ref cda) qual = true) (S : SupScope N ps scope) (SF : SupF P K mg N params scope cda cc D)
    (len : ∀ vs H Q E, sp vs H Q E → vs.length = ps.length)
    (hbody : ∀ (A : Around) (outer : List Env) (s : Shared) (H : Hp) (vs : List V) (Q : VK) (E : XK), Room k (A.deeper (ksEnv qual scope s.heap.objs.size f (.ref cda) cc)) → sp vs H Q E →
      ∃ ta t, PA (supCx CX P w K mg base N qual scope f (.ref cda) cc A outer s H E) (e :: es) ta ∧ PSs (supCx CX P w K mg base N qual scope f (.ref cda) cc A outer s H E) rest t ∧
        ∃ (a C : Addr) (ws : List V), vs = .ref a :: ws ∧ OexC K C ∧ mroIn K C (.ref D) = some true ∧ ks_superIn K C D "__init__" = some (some (.builtin "ValueError.__init__")) ∧ subIn K (.ref C) (.type "ValueError") = some true ∧
          H a = some (exo a C none) ∧ ta (L2.start N vs) H fun us H1 => us.length ≤ 1000 ∧ H1 a = some (exo a C none) ∧ t { nx := fun _ H' => Q .non H', rt := Q } (L2.start N vs) H1)
    (hsw : ∀ env, swapsWith (.Call (.Attribute (.Call (.Name "super" p0) [] [] p1) "__init__" p2) (e :: es) [] p3) none p4.line env = pure false := by intro; rfl)
    (he : ∀ env, starEach (e :: es) env = (false, eval e env) :: starEach es env := by intro; rfl) (hpl : ∀ env, (backTo p3 (starEach es env)).any (·.1) = false := by intro; rfl)
    (hmc : ∀ env, eval (.Call (.Attribute (.Call (.Name "super" p0) [] [] p1) "__init__" p2) (e :: es) [] p3) env = (do
      let ov ← attributeBase (.Call (.Name "super" p0) [] [] p1) "__init__" env (eval (.Call (.Name "super" p0) [] [] p1) env)
      standAt p2.atName
      let (f, first) ← holding [ov] (getMethod ov "__init__" (pl env))
      callWith p3 f first (backTo p3 (starEach (e :: es) env)) [])) :
    FnOk P w K mg base CX (k + 1) f (ksFn name qual params (.Expr (.Call (.Attribute (.Call (.Name "super" p0) [] [] p1) "__init__" p2) (e :: es) [] p3) p4 :: rest) scope dV kV doc pm an (.ref cda) ct cc) ps sp := by
  refine ⟨len, fun A outer s H args us vs Q E hr e0 hb r hsp => ?_⟩
  have hl := len _ _ _ _ hsp
  have KX : K.In s.heap := e0.mod.kin.keeps fun b o e => (e0.bs b o e).1
  have lim : s.heap.NoLimit := e0.mod.nolimit.keeps fun b o e => (e0.bs b o e).1
  obtain ⟨cl, cld, csl, hcell⟩ := SF.cell
  obtain ⟨ccl, cdd, vsc, ccs, file, tf, hcode, hvs, hfile⟩ := SF.code
  obtain ⟨cdD, hD⟩ := SF.cls
  obtain ⟨ar, hhead, hN⟩ := SF.head
  refine ks_codeAny_call_defAt hr.depth (KX _ _ lk) rfl lim (PySem.W.codeRec_of KX hcd) rfl hb S.nocell (fun y hy => S.par y.1 (List.of_mem_zip hy).1) (fun h₁ hns kp => ?_) S.co S.gen S.kind
  show _root_.PySem.wpAt (model P w) (A.deeper (ksEnv qual scope s.heap.objs.size f (.ref cda) cc)) (.func _ (ksEnv qual scope s.heap.objs.size f (.ref cda) cc)) (execs _ (ksEnv qual scope s.heap.objs.size f (.ref cda) cc)) _ _ _
  have I : Inv (supCx CX P w K mg base N qual scope f (.ref cda) cc A outer s H E) [] (L2.start N vs) H { s with heap := h₁, toks := s.toks + (ps.zip us).length } := sup_start S hr.hd e0 hl r hcell SF.hkc hns kp
  obtain ⟨ta, t, hA, hS, a, C, ws, ev, T, hsub, hm, hVE, ha, hq⟩ := hbody A outer s H vs Q E (hr.deeper _) hsp
  obtain ⟨nm, qn, Nn, bs, bm, sn, sb, ab, col, dd, k0, k1, k2, k3, k5, hC, hbm⟩ := T.cls
  have X1 : K.In h₁ := KX.keeps kp
  obtain ⟨t1, hao⟩ := exo_at I.hok ha
  have IA : InstAt h₁ a { cls := .ref C, dict := none, data := .fields #[.ref t1, .none, .none, .none, .bool false, .none] } C none := ⟨hao, rfl, rfl, trivial⟩
  obtain ⟨oD, hD1, hD2⟩ : ∃ oD, h₁.get? D = some oD ∧ oD.data = .cls cdD := by
    unfold clsIn at hD
    split at hD
    · rename_i c d cd' sl ho
      cases hD
      exact ⟨_, X1 _ _ ho, rfl⟩
    · cases hD
  -- the parameter self
  obtain ⟨mm, hmn, hml⟩ := I.loc
  have hpar : scope.names.lookup ar.arg = some .local := S.par _ (by
    have : ps[0]? = some ar.arg := by
      rw [← S.pre, List.getElem?_take_of_lt (by rw [← hl, ev]; simp)]
      exact hN
    exact List.mem_of_getElem? this)
  obtain ⟨u0, ru0, lk0⟩ := hml 0 ar.arg (.ref a) hN (by subst ev; rfl) (.inl hpar)
  obtain rfl : u0 = Value.ref a := ru0
  have hself : mm ar.arg = some (.ref a) := by
    rcases lk0 with ⟨_, z⟩ | ⟨z, _⟩
    · exact z
    · have z : scope.names.lookup ar.arg = some .cell ∨ scope.names.lookup ar.arg = some .free := z
      rw [hpar] at z
      rcases z with z | z <;> cases z
  refine ks_wpAt_execs_cons (ks_wpAt_Expr_any (ks_wpAt_MethodCall (pl := pl _) ?_ (hmc _)) (by unfold interactive; rw [show (ksEnv qual scope s.heap.objs.size f (.ref cda) cc).scope.kind = .function from S.kind]; rfl) (hsw _))
  refine ks_wpAt_super_base (env := ksEnv qual scope s.heap.objs.size f (.ref cda) cc) SF.hks SF.hkc (by decide) rfl (X1 _ _ lk) rfl hhead rfl (X1 _ _ hcode) rfl hvs hfile SF.htop ?_
  obtain ⟨mb, hb1, hb2⟩ := e0.mod.blt
  have bk : ∀ b o, base.get? b = some o → h₁.get? b = some o := fun b o z => kp _ _ (e0.bs b o z).1
  refine ks_loadName_global S.kind SF.hks (Calls.loadGlobal_builtin (e0.mod.glob.keeps bk) SF.noSup (hb1.keeps bk) ((hb2 _ (by decide)).trans boot_super) ⟨rfl, ?_⟩)
  refine wpAny_loadName_free S.kind SF.hkc (by show ([((("__class__" : Str)), cc)] : List (Str × Addr)).lookup (Str.ofString "__class__") = some cc; simp [List.lookup]) ⟨_, X1 _ _ hcell, rfl⟩ ?_
  refine wpAny_loadName_local S.kind hpar hmn hself ?_
  refine ks_wpAny_isType_cls hD1 hD2 ⟨rfl, ?_⟩
  refine ks_wpAny_call_super hD1 hD2 hao rfl (fun c z => by cases z) (looks_mroIn X1 hsub) (fun h2 hso kp2 => ?_)
  have X2 : K.In h2 := X1.keeps kp2
  have hI2 : Looks (model P w) h2 (isInstance (.ref a) (.type "ValueError")) true := by
    have IA2 : InstAt h2 a { cls := .ref C, dict := none, data := .fields #[.ref t1, .none, .none, .none, .bool false, .none] } C none := ⟨kp2 _ _ hao, rfl, rfl, trivial⟩
    exact IA2.type.andThen (looks_subIn X2 hVE)
  cases hc : clsIn K C with
  | none => unfold ks_superIn at hm; rw [hc] at hm; cases hm
  | some cd =>
    unfold ks_superIn at hm
    rw [hc] at hm
    refine kxs_getMethod kxs_ValueError hso (looks_opaque X2 SF.opq) (l₀ := cd.mro) (fun A Q E s k q => wpAny_bind ((looks_clsIn X2 hc) A _ E s k (wpAny_pure q))) rfl X2 hm hI2 (ks_ne X1 IA hc) (by decide) ?_
    have kp3 : ∀ b o, h₁.get? b = some o → (h2.push (kxs_mw "ValueError.__init__" a)).get? b = some o := fun b o z => Heap.get?_push_of_some _ (kp2 _ _ z)
    have I3 := I.kept (t' := s.toks + (ps.zip us).length + 1) kp3
    have hmw : (h2.push (kxs_mw "ValueError.__init__" a)).get? h2.objs.size = some (kxs_mw "ValueError.__init__" a) := Heap.get?_push_at rfl rfl
    have hnew : H h2.objs.size = none := by
      refine I.hok.fresh ?_
      have hsz := Heap.lt_size hso
      exact Nat.le_of_lt hsz
    rw [he]
    show wpAny _ _ (callWith p3 (.ref h2.objs.size) [] ((false, eval e _) :: backTo p3 (starEach es _)) []) _ _ _
    refine kxs_callWith (i := "ValueError.__init__") (x := a) (by show (false || (backTo p3 (starEach es _)).any (·.1)) = false; rw [hpl]; rfl) ?_
    have I4 : Inv (supCx CX P w K mg base N qual scope f (.ref cda) cc A outer s H E) [(h2.objs.size, kxs_mw "ValueError.__init__" a)] (L2.start N vs) H { s with heap := h2.push (kxs_mw "ValueError.__init__" a), toks := s.toks + (ps.zip us).length + 1 } :=
      ⟨I3.ok, I3.os, I3.bare, I3.base, I3.loc, I3.cell, I3.free, I3.freeC, fun p hp => by
        have hp : p ∈ [(h2.objs.size, kxs_mw "ValueError.__init__" a)] := hp
        rw [List.mem_singleton.mp hp]
        have hsz := Heap.lt_size hso
        exact ⟨hmw, hnew, Nat.ne_of_gt (Nat.lt_trans I.lt hsz), I.nofs (Nat.le_of_lt hsz), fun v z => by cases z⟩, I3.hok, I3.len⟩
    refine PySem.Calls.evalArgs_plain ?_
    have hrun := hA.run p3 _ _ _ H _ I4 hq
    rw [he] at hrun
    refine thn hrun fun us' s1 ⟨vs', H1, I5, r5, hz, ha1, ht⟩ => ?_
    have hu5 := (I5.pin (h2.objs.size, kxs_mw "ValueError.__init__" a) (by simp [supCx])).1
    refine ⟨hu5, ?_⟩
    obtain ⟨t5, he5⟩ := exo_at I5.hok ha1
    have hlen : us'.length ≤ sizeLine := by
      rw [← r5.length, sizeLine_eq]
      omega
    obtain ⟨hp5, g5, d5, tk5, os5⟩ := s1
    refine call_mw (I5.kIn _ _ hC) he5 hu5 hlen (fun h6 t6 k6 hx6 => ?_)
    have J := I5.write (t' := tk5) (x := a) (e := a) (o := exo a C none) (by rw [ha1]; exact True.intro) (.inl rfl) k6 ⟨_, hx6⟩ (exo_ok hx6)
    have eu : upd H1 a (exo a C none) = H1 := by
      funext b
      by_cases hb : b = a
      · rw [hb, upd_same, ha1]
      · rw [upd_ne hb]
    rw [eu] at J
    have J2 : Inv (supCx CX P w K mg base N qual scope f (.ref cda) cc A outer s H E) [] (L2.start N vs) H1 ⟨h6, g5, d5, tk5, os5⟩ :=
      ⟨J.ok, J.os, J.bare, J.base, J.loc, J.cell, J.free, J.freeC, fun p hp => absurd (show p ∈ ([] : List (Addr × Obj)) from hp) (by simp), J.hok, J.len⟩
    refine wpAt_of_wpAny (wpAny_mono (hS.run [] _ (L2.start N vs) H1 _ J2 ht) (fun fl s' hs => ?_) fun e s' hs => hs)
    have fin : ∀ {σ' : L2.St} {H' : Hp} {v : V} {u : Value}, Inv (supCx CX P w K mg base N qual scope f (.ref cda) cc A outer s H E) [] σ' H' s' → RelV v u → Q v H' → CE outer P w H s Q u s' :=
      fun {σ' H' v u} J rv q => ⟨v, H', J.os, J.bare, J.base, J.hok, rv, q⟩
    cases fl with
    | ret u =>
      obtain ⟨v, σ', H', J, rv, q⟩ := hs
      exact fin J rv q
    | next =>
      obtain ⟨σ', H', J, q⟩ := hs
      exact fin (v := V.non) (u := Value.none) J rfl q
    | brk =>
      obtain ⟨_, _, _, q⟩ := hs
      exact False.elim q
    | cont =>
      obtain ⟨_, _, _, q⟩ := hs
      exact False.elim q
/-! ### one field -/
/-- what __init__(self, x) leaves: the field f -/
def spI1 (C : Addr) (f : Str) : Sp := fun vs H Q _ => ∃ (a : Addr) (x : V), vs = [.ref a, x] ∧ H a = some (exo a C none) ∧ ∀ dx, H dx = none → dx ≠ a → Q .non (upd (upd H dx (exd dx [(f, x)])) a (exo a C (some dx)))
theorem ex_raiseO {E : XK} {τ τ1 : TEnv} {P : Post} {C : Addr} {f : Str} {ta : TA} {x : PV} {vx : V} (h : EvA ta τ [x] τ1) (hx : ∀ G v, Rep G v x → v = vx) (q : P.er ⟨C, some (f, vx)⟩) :
    Exec E (fun _ σ H => tMkO C (spI1 C f) [] ta σ H fun cls d H' => (fun cls d (_ : L2.St) H => E cls d H) cls d σ H') τ P := fun G0 H0 bs σ G H D s he hn hr hb hc =>
  h _ _ _ _ _ _ s _ fun vs G1 H1 s1 e1 r1 => by
    cases r1 with
    | @cons v _ _ _ r r2 =>
      cases r2
      obtain rfl := hx _ _ r
      refine ⟨by simp, fun a na => ⟨a, v, rfl, upd_same, fun dx hd hne => ⟨rfl, dx, [(f, v)], upd_same, ?_, ?_, ?_⟩⟩⟩
      · rw [upd_ne hne, upd_same]
      · rw [upd_ne hne] at hd
        exact hd
      · rw [upd_ne hne] at hd
        have key : ∀ b o, H1 b = some o → upd (del (upd (upd (upd H1 a (exo a C none)) dx (exd dx [(f, v)])) a (exo a C (some dx))) a) dx (.xd [(f, v)]) b = some o := fun b o z => by
          have n1 : b ≠ dx := fun y => by rw [y, hd] at z; cases z
          have n2 : b ≠ a := fun y => by rw [y, na] at z; cases z
          rw [upd_ne n1, del_ne n2, upd_ne n2, upd_ne n1, upd_ne n2]
          exact z
        refine he _ q (.ref C) (some dx) G1 _ s1.g (fun b o z => key b o (s1.sub b o z)) (fun b o z nb => key b o (s1.h b o z nb)) (fun b o z => ?_) s1.old ⟨rfl, dx, rfl, upd_same⟩
        obtain ⟨u, hu⟩ := s1.hn b o z
        exact ⟨u, key b u hu⟩
structure SupE (P : Program) (K : PySem.W.Frag) (mg : Str → Option Value) (x q : Str) (st : Stmt) (N ps : List Str) (C fI : Addr) (fd : FuncData) : Prop where
  ex : ∃ (oc : Value) (od : Option Addr) (kV doc pm : Value) (an : Option Addr) (cda cc : Addr) (ct : Value) (osl : Array (Option Value)), fd = ksFn "__init__" q (defArgs st) (defBody st) (defScope st) .none kV doc pm an (.ref cda) ct cc ∧
    K.lookup fI = some ⟨oc, od, .func fd, osl⟩ ∧ PySem.W.codeIn K (.ref cda) q = true ∧ SupF P K mg N (defArgs st) (defScope st) cda cc C
  oex : OexC K C
  sub : mroIn K C (.ref C) = some true
  sup : ks_superIn K C C "__init__" = some (some (.builtin "ValueError.__init__"))
  ve : subIn K (.ref C) (.type "ValueError") = some true
  iC : findIn K (.ref C) "__init__" = some (some (.ref fI))
  tI : typeIn K (.ref fI) = some (.type "function")
  g : mg x = some (.ref C)
  b : Binds K fd ps []
/-- def __init__(self, f): super().__init__(f); self.f = f -/
theorem ok_sup1 {P : Program} {w : World} {K : PySem.W.Frag} {mg : Str → Option Value} {base : Heap} {x q f : Str} {st : Stmt} {C fI : Addr} {fd : FuncData} (T : SupE P K mg x q st ["self", f] ["self", f] C fI fd) {p0 p1 p2 p3 p4 p5 p6 p7 p8 p9 : Pos} {pl : Env → Sem Bool}
    (hb : defBody st = [.Expr (.Call (.Attribute (.Call (.Name "super" p0) [] [] p1) "__init__" p2) [.Name f p5] [] p3) p4, .Assign [.Attribute (.Name "self" p6) f p7] (.Name f p8) p9])
    (S : SupScope ["self", f] ["self", f] (defScope st)) (hno : findIn K (.ref C) f = some none) (h1 : (f == ("__debug__" : Str)) = false) (h2 : (f == ("__classdict__" : Str)) = false)
    (hmc : ∀ env, eval (.Call (.Attribute (.Call (.Name "super" p0) [] [] p1) "__init__" p2) [.Name f p5] [] p3) env = (do
      let ov ← attributeBase (.Call (.Name "super" p0) [] [] p1) "__init__" env (eval (.Call (.Name "super" p0) [] [] p1) env)
      standAt p2.atName
      let (fn, first) ← holding [ov] (getMethod ov "__init__" (pl env))
      callWith p3 fn first (backTo p3 (starEach [.Name f p5] env)) []))
    (hs : ∀ env, swapsWith (.Name f p8) (some (.Attribute (.Name "self" p6) f p7)) p9.line env = pure false := by intro; rfl) : FnOk P w K mg base CX0 1 fI fd ["self", f] (spI1 C f) := by
  obtain ⟨oc, od, kV, doc, pm, an, cda, cc, ct, osl, rfl, lk, hcd, SF⟩ := T.ex
  rw [hb] at lk ⊢
  have v1 : Vis (defScope st) f := .inl (S.par _ (by simp))
  have v0 : Vis (defScope st) "self" := .inl (S.par _ (by simp))
  refine fn_sup (hmc := hmc) lk hcd S SF (fun vs H Q E h => ?_) (fun A outer s H vs Q E hr h => ?_)
  · obtain ⟨a, x, rfl, _⟩ := h
    rfl
  · obtain ⟨a, x, rfl, ha, hq⟩ := h
    refine ⟨_, _, pa_cons (pe_var (i := 1) rfl v1 h1 h2) pa_nil, pss_one (ps_ost (pe_var (i := 0) rfl v0) (pe_var (i := 1) rfl v1 h1 h2) (hs _)), a, C, [x], rfl, T.oex, T.sub, T.sup, T.ve, ha, ?_⟩
    refine ⟨x, rfl, by simp, ha, ?_⟩
    exact ⟨x, rfl, .ref a, rfl, a, C, rfl, T.oex, hno, .inl ⟨ha, fun dx hd hne => hq dx hd hne⟩⟩
end TLy
end
section
set_option maxRecDepth 100000
set_option maxHeartbeats 4000000
namespace K10
open PySem PySem.Spec PyProof.Rows L2 TLy TL NumText
/-! steps, one by one -/
local macro_rules | `(tactic| walk_at "ev") => `(tactic| first
  | exact ev_var rfl
  | exact ev_int
  | exact ev_str
  | exact ev_bl
  | exact ev_non
  | exact ev_ty
  | exact ea_nil
  | exact eo_none
  | exact r_add
  | exact r_sub
  | exact r_lt
  | exact r_le
  | exact r_gt
  | exact r_ge
  | exact r_eqI
  | exact r_neI
  | exact r_eqS
  | exact r_neS
  | exact r_leS
  | exact r_inSign
  | exact r_isN
  | exact r_notN
  | exact u_neg
  | exact c_intI
  | exact c_abs
  | exact c_ord
  | exact c_lenT
  | exact c_lenL
  | exact c_all
  | exact Nat.le_of_ble_eq_true rfl
  | exact c_tupL
  | exact c_lstL
  | exact c_lstT
  | exact u_slT
  | exact u_slL
  | exact tg_name
  | exact tgs_nil
  | ((with_reducible refine' ev_lenM ?_) <;> rfl)
  | ((with_reducible refine' ev_op ?_ ?_ ?_) <;> try walk_at "ev")
  | ((with_reducible refine' ev_un ?_ ?_) <;> try walk_at "ev")
  | ((with_reducible refine' ea_cons ?_ ?_) <;> try walk_at "ev")
  | ((with_reducible refine' eo_some ?_) <;> try walk_at "ev")
  | ((with_reducible refine' ev_cb ?_ ?_) <;> try walk_at "ev")
  | ((with_reducible refine' ev_sl ?_ ?_ ?_ ?_) <;> try walk_at "ev")
  | ((with_reducible refine' ev_chain ?_ ?_ ?_ ?_ ?_) <;> try walk_at "ev")
  | ((with_reducible refine' eb_test ?_) <;> try walk_at "ev")
  | ((with_reducible refine' eb_B ?_) <;> try walk_at "ev")
  | ((with_reducible refine' eb_not ?_) <;> try walk_at "ev")
  | ((with_reducible refine' eb_andP ?_ ?_) <;> try walk_at "ev")
  | ((with_reducible refine' eb_orP ?_ ?_) <;> try walk_at "ev")
  | ((with_reducible refine' ev_andP ?_ ?_) <;> try walk_at "ev")
  | ((with_reducible refine' ev_orP ?_ ?_) <;> try walk_at "ev")
  | ((with_reducible refine' ev_notP ?_) <;> try walk_at "ev")
  | ((with_reducible refine' ev_tup ?_ ?_) <;> try walk_at "ev")
  | ((with_reducible refine' ev_lst ?_ ?_) <;> try walk_at "ev")
  | ((with_reducible refine' ev_call ?_ ?_) <;> first | assumption | walk_at "ev" | skip)
  | ((with_reducible refine' tg_tup ?_ ?_) <;> try walk_at "ev")
  | ((with_reducible refine' tgs_cons ?_ ?_) <;> try walk_at "ev")
  | (refine' r_mul ?_)
  | (refine' r_modN ?_)
  | (refine' r_fdivN ?_)
  | (refine' r_pow ?_)
  | (refine' r_addS ?_)
  | (refine' r_catT ?_)
  | (refine' r_catL ?_)
  | (refine' r_ixT ?_)
  | (refine' r_ixL ?_)
  | (refine' r_ixS ?_ ?_ <;> first | exact len_sz (by omega) | exact at_get _ _ (by assumption) | skip)
  | (refine' u_slS ?_ <;> first | exact len_sz (by omega) | skip)
  | (refine' c_lenS ?_ <;> first | exact len_sz (by omega) | skip)
  | (refine' c_strI ?_)
  | (refine' c_intS ?_ ?_)
  | with_reducible exact isi_NB
  | with_reducible exact isi_NI
  | with_reducible exact isi_NS
  | with_reducible exact isi_NT
  | with_reducible exact isi_NL
  | with_reducible exact isi_BB
  | with_reducible exact isi_BI
  | with_reducible exact isi_BS
  | with_reducible exact isi_BT
  | with_reducible exact isi_BL
  | with_reducible exact isi_IB
  | with_reducible exact isi_II
  | with_reducible exact isi_IS
  | with_reducible exact isi_IT
  | with_reducible exact isi_IL
  | with_reducible exact isi_SB
  | with_reducible exact isi_SI
  | with_reducible exact isi_SS
  | with_reducible exact isi_ST
  | with_reducible exact isi_SL
  | with_reducible exact isi_TB
  | with_reducible exact isi_TI
  | with_reducible exact isi_TS
  | with_reducible exact isi_TT
  | with_reducible exact isi_TL
  | with_reducible exact isi_LB
  | with_reducible exact isi_LI
  | with_reducible exact isi_LS
  | with_reducible exact isi_LT
  | with_reducible exact isi_LL
  | (refine' r_eqD ?_ ?_ ?_ ?_)
  | (refine' r_neD ?_ ?_ ?_ ?_)
  | (intro _h; walk_at "ev"))

abbrev s_TM : Stmt := inClass (topS 4) 0
abbrev N_TM : List Str := ["self", "limit"]
theorem sc_TM : SupScope N_TM N_TM (defScope s_TM) := ⟨rfl, rfl, rfl, by decide +kernel, rfl, by decide +kernel, by decide +kernel, by decide +kernel⟩
section
variable {P : Program} {w : World} {K : PySem.W.Frag} {mg : Str → Option Value} {base : Heap} {a : Nat → Addr} {d : Nat → FuncData}
abbrev TMK (P : Program) (K : PySem.W.Frag) (mg : Str → Option Value) (a : Nat → Addr) (d : Nat → FuncData) : Prop := SupE P K mg "TooMany" "TooMany.__init__" s_TM N_TM N_TM (a 4) (a 5) (d 5)
theorem ok_TM (TM : TMK P K mg a d) (hno : PySem.W.findIn K (.ref (a 4)) "limit" = some none) : FnOk P w K mg base CX0 1 (a 5) (d 5) ["self", "limit"] (spI1 (a 4) "limit") :=
  ok_sup1 TM (by rfl) sc_TM hno (by decide) (by decide) (fun env => by rfl)
def R_thing_text (C3 C4 : Addr) : List PV → Sum PV Er → Prop := fun xs y => ∃ x : PV, xs = [x] ∧ sz x = true ∧ (isTh 20 x = true → (txt x).length ≤ 100000) ∧
  y = if isTh 20 x = true then (if (txt x).length ≤ 60000 then .inl (.str (S (txt x))) else .inr ⟨C4, some ("limit", .int 60000)⟩) else .inr ⟨C3, none⟩
theorem ok_thing_text (T : Txt K mg a d) (TM : TMK P K mg a d) (hno : PySem.W.findIn K (.ref (a 4)) "limit" = some none) : FnOk P w K mg base (L2.CX P w) 26 (a 22) (d 22) ["value"] (spOfE (R_thing_text (a 3) (a 4))) := by
  refine ok_err T.thing_text.F sc_thing_text (fun xs y h => by obtain ⟨t, rfl, _⟩ := h; rfl) (by decide) (fun cdv A outer s H E hr xs y h => ?_)
  obtain ⟨x, rfl, hz, hl, rfl⟩ := h
  obtain ⟨_, c_LONG⟩ := T.c_LONG
  have ih_text_in := ok_text_in (P := P) (w := w) (base := base) T 20
  refine ⟨_, (pss_cons (ps_expr (pe_call (ok_need_thing T) (hr.mono (by first | decide | omega)) (by rfl) T.need_thing.g T.need_thing.F.kp T.need_thing.b .nil (passes_call (takes_of rfl rfl rfl rfl) (fun _ _ _ _ z => z)) (pa_cons (pv 0) pa_nil)))
      (pss_cons (ps_set (i := 1) sc_thing_text.nd rfl (by first | exact Or.inl rfl | exact Or.inr rfl) (pe_call ih_text_in (hr.mono (by first | decide | omega)) (by rfl) T.text_in.g T.text_in.F.kp T.text_in.b .nil pass0 (pa_cons (pv 0) pa_nil)))
      (pss_cons (ps_if (pt_cmpR op_gt (pe_callB call_len (by rfl) T.n_len (by decide +kernel) (pa_cons (pv 1) pa_nil)) (pe_glob (v := .int 60000) (by rfl) c_LONG ⟨_, rfl⟩) (nomark _)) (pss_one (ps_raise rfl (takes_of rfl rfl rfl rfl) (pmk_oex TM.oex TM.iC TM.tI (ok_TM TM hno) (hr.mono (by first | decide | omega)) TM.b .nil pass0 (by rfl) TM.g (pa_cons (pe_glob (v := .int 60000) (by rfl) c_LONG ⟨_, rfl⟩) pa_nil)))) pss_nil)
      (pss_one (ps_ret (pv 1)))))), ?_⟩
  show Exec E _ [some (.val x), none] _
  by_cases hx : isTh 20 x = true
  · have hl := hl hx
    refine' ex_seq1 (ex_drop (ev_call (τ1 := [some (.val x), none]) ?ga (spEv (y := .non) ⟨x, rfl, hz, by rw [if_pos hx]⟩)) rfl) ?_
    case ga => exact ea_cons (ev_var rfl) ea_nil
    refine' ex_seq1 (ex_set (x := .str (S (txt x))) (τ1 := [some (.val x), none]) (ev_call ?ga (spP ⟨x, rfl, hx, hl, rfl⟩)) rfl) ?_
    case ga => exact ea_cons (ev_var rfl) ea_nil
    show Exec E _ [some (.val x), some (.val (.str (S (txt x))))] _
    refine' ex_guard (b := decide ((60000 : Int) < ((S (txt x)).length : Int))) ?gh (fun q M => ?_) (fun q => ?_)
    case gh => exact eb_test (ev_op (ev_cb (ea_cons (ev_var rfl) ea_nil) (c_lenS (len_sz (by omega)))) ev_int r_gt)
    · rw [decide_eq_true_eq, S_len] at q
      refine ex_raiseO (x := .int 60000) (vx := .int 60000) (ea_cons ev_int ea_nil) (fun G v r => by cases r; rfl) ?_
      show _ = _
      rw [if_pos hx, if_neg (by omega)]
    · rw [decide_eq_false_iff_not, S_len] at q
      refine ex_ret (ev_var rfl) ?_
      show _ = _
      rw [if_pos hx, if_pos (by omega)]
  · refine' ex_seq (fun _ => False) (ex_dropE (ee_call ?ga (spEe (x := ⟨a 3, none⟩) ⟨x, rfl, hz, by rw [if_neg hx]⟩)) ?_) (fun _ z => z.elim)
    case ga => exact ea_cons (ev_var rfl) ea_nil
    show _ = _
    rw [if_neg hx]
end
end K10
end
section
set_option maxRecDepth 100000
set_option maxHeartbeats 2000000
/-! a def that returns a new list -/
namespace TLy
open PySem PySem.Spec PyProof.Rows L2
def RetN (G H : Hp) (ys : List PV) (Q : VK) : Prop := ∀ p ws G' H', Gr G H G' H' → H p = none → G' p = none → H' p = some (.lst ws) → Reps G' ws ys → Q (.ref p) H'
def SpN (sp : Sp) (E : XK) (xs : List PV) (ys : List PV) : Prop := ∀ (G H : Hp), Same G H → ∀ vs, Reps G vs xs → ∀ Q, RetN G H ys Q → sp vs H Q E
def spOfN (R : List PV → List PV → Prop) : Sp := fun vs H Q _ => ∃ G xs ys, Same G H ∧ Reps G vs xs ∧ R xs ys ∧ RetN G H ys Q
theorem spN {R : List PV → List PV → Prop} {E : XK} {xs ys : List PV} (h : R xs ys) : SpN (spOfN R) E xs ys := fun G H e vs r Q q => ⟨G, xs, ys, e, r, h, q⟩
theorem en_call {τ τ1 : TEnv} {sp : Sp} {E : XK} {tr : TA} {xs ys : List PV} (h : EvA tr τ xs τ1) (k : SpN sp E xs ys) : EvN (tCall sp [] E tr) τ ys τ1 := fun _ _ _ _ G H s Q q =>
  h _ _ _ _ _ _ s _ fun vs G1 H1 s1 e1 r1 => by
    rw [List.append_nil]
    exact k G1 H1 s1.sub vs r1 Q fun p ws G2 H2 g hp gp hp2 r2 => q p ws G2 H2 (s1.gr g) (e1.trans g.g) (s1.new0 hp) gp hp2 r2 (s1.nw hp)
section
variable {P : Program} {w : World} {K : PySem.W.Frag} {mg : Str → Option Value} {base : Heap} {x qual : Str} {st : Stmt} {f : Addr} {fd : FuncData} {N ps : List Str} {k : Nat}
theorem ok_new {R : List PV → List PV → Prop} (F : Fun K x qual st f fd) (S : FnScope N ps (defScope st)) (hl : ∀ xs y, R xs y → xs.length = ps.length) (hN : ps.length ≤ N.length)
    (body : ∀ (cdv : Value) (A : Around) (outer : List Env) (s : Shared) (H : Hp) (E : XK), Room k (A.deeper (envOfC qual (defScope st) s.heap.objs.size f cdv)) → ∀ xs ys, R xs ys →
      ∃ t te τ1 τ2, PSs (cxOf CX0 P w K mg base N qual (defScope st) f cdv A outer s H E).nox (defBody st) (tSeq t (tRet te)) ∧ Exec E t (startT N.length xs) { nx := fun τ => τ = τ1, rt := fun _ _ => False } ∧ EvN te τ1 ys τ2) :
    FnOk P w K mg base CX0 (k + 1) f fd ps (spOfN R) := by
  refine F.ok S (fun vs H Q E h => ?_) (fun cdv A outer s H vs Q E hr h => ?_)
  · obtain ⟨G, xs, y, _, r, h, _⟩ := h
    rw [r.length]
    exact hl xs y h
  · obtain ⟨G, xs, y, sub, r, h, q⟩ := h
    obtain ⟨t, te, τ1, τ2, ht, he, hv⟩ := body cdv A outer s H E hr xs y h
    refine ⟨_, ht, he G H [] _ G H _ (st_start0 sub r (by rw [hl xs y h]; exact hN)) (fun e z => z.elim) (fun σ' τ' G' H' z s' => ?_) (fun v x σ' τ' G' H' z s' rx => z.elim) (fun _ _ _ _ z => z.elim) (fun _ _ _ _ z => z.elim)⟩
    subst z
    exact hv G H [] σ' G' H' s' _ fun p ws G2 H2 s2 e2 h0 gp hp r2 nw => q p ws G2 H2 ⟨s2.g, fun b o e => s2.h b o e (by simp), s2.sub, s2.old⟩ h0 gp hp r2
end
/-! ### lists of atoms -/
def atom : PV → Bool
  | .non => true | .bl _ => true | .int _ => true | .str s => PyData.strOk s | _ => false
theorem atom_lay {x : PV} (h : atom x = true) : (pd x).canLay0 = true ∧ (pd x).depth ≤ 1 ∧ isD x = true := by
  cases x <;> first | (refine ⟨rfl, ?_, rfl⟩; simp [pd, PyData.depth]) | (refine ⟨h, ?_, rfl⟩; simp [pd, PyData.depth]) | cases h
theorem pds_len : ∀ l : List PV, (pds l).length = l.length
  | [] => rfl
  | x :: l => congrArg (· + 1) (pds_len l)
theorem atoms_lay : ∀ {l : List PV}, (∀ x ∈ l, atom x = true) → PyData.canLayAll0 (pds l) = true ∧ PyData.depthAll (pds l) ≤ 1 ∧ isDs l = true
  | [], _ => ⟨rfl, by simp [pds, PyData.depthAll], rfl⟩
  | a :: l, h => by
    obtain ⟨h1, h2, h3⟩ := atom_lay (h a List.mem_cons_self)
    obtain ⟨g1, g2, g3⟩ := atoms_lay fun x hx => h x (List.mem_cons_of_mem _ hx)
    refine ⟨?_, ?_, ?_⟩
    · show PyData.canLayAll0 (pd a :: pds l) = true
      simp only [PyData.canLayAll0, h1, g1, Bool.and_self]
    · show PyData.depthAll (pd a :: pds l) ≤ 1
      simp only [PyData.depthAll]
      omega
    · show (isD a && isDs l) = true
      rw [h3, g3]
      rfl
theorem flatShaped {l : List PV} (h : ∀ x ∈ l, atom x = true) : SeqAt.shaped (pd (.lst l)) = true := by
  obtain ⟨g1, g2, g3⟩ := atoms_lay h
  show ((PyData.list (pds l)).canLay0 && decide ((PyData.list (pds l)).depth ≤ 64)) = true
  rw [Bool.and_eq_true]
  refine ⟨by simp only [PyData.canLay0]; exact g1, decide_eq_true ?_⟩
  simp only [PyData.depth]
  omega
theorem flatD {l : List PV} (h : ∀ x ∈ l, atom x = true) : isD (.lst l) = true := (atoms_lay h).2.2
theorem r_eqNil {K : PySem.W.Frag} {l : List PV} (h : ∀ x ∈ l, atom x = true) : RvR (rEqD K) (.lst l) (.lst []) (.bl (decide (l = []))) := by
  have e : decide (l = []) = PyData.eqv (pd (.lst l)) (pd (.lst [])) := by
    cases l with
    | nil => rfl
    | cons a l =>
      show false = PyData.eqv (.list (pd a :: pds l)) (.list [])
      simp [PyData.eqv, PyData.eqvAll]
  rw [e]
  exact r_eqD (flatD h) rfl (flatShaped h) rfl
/-! ### in, of atoms -/
def toV : PV → V
  | .bl b => .bl b | .int i => .int i | .str s => .str s | _ => .non
def flat : PV → Bool
  | .non => true | .bl _ => true | .int _ => true | .str _ => true | _ => false
theorem toV_of {G : Hp} {v : V} {x : PV} (r : Rep G v x) (h : flat x = true) : v = toV x ∧ flatV v = true := by
  cases r <;> first | exact ⟨rfl, rfl⟩ | cases h
theorem toV_all {G : Hp} : ∀ {vs : List V} {xs : List PV}, Reps G vs xs → xs.all flat = true → vs = xs.map toV ∧ vs.all flatV = true
  | _, _, .nil, _ => ⟨rfl, rfl⟩
  | _, _, .cons r t, h => by
    rw [List.all_cons, Bool.and_eq_true] at h
    obtain ⟨e1, e2⟩ := toV_of r h.1
    obtain ⟨g1, g2⟩ := toV_all t h.2
    exact ⟨by rw [List.map_cons, ← e1, ← g1], by rw [List.all_cons, e2, g2]; rfl⟩
theorem r_inT {K : PySem.W.Frag} {neg : Bool} {x : PV} {l : List PV} (hx : flat x = true) (hl : l.all flat = true) : RvR (rIn K neg) x (.tup l) (.bl (if neg then !inV (toV x) (l.map toV) else inV (toV x) (l.map toV))) := fun G H e v u r1 r2 => by
  obtain ⟨e1, f1⟩ := toV_of r1 hx
  cases r2 with
  | tup ha r =>
    obtain ⟨e2, f2⟩ := toV_all r hl
    refine Rv.ret e (.bl _) fun Q q => ⟨_, _, rfl, .inr (SqT.of (e _ _ ha)), f1, f2, ?_⟩
    rw [e1, e2]
    exact q
theorem r_inL {K : PySem.W.Frag} {neg : Bool} {x : PV} {l : List PV} (hx : flat x = true) (hl : l.all flat = true) : RvR (rIn K neg) x (.lst l) (.bl (if neg then !inV (toV x) (l.map toV) else inV (toV x) (l.map toV))) := fun G H e v u r1 r2 => by
  obtain ⟨e1, f1⟩ := toV_of r1 hx
  cases r2 with
  | lst ha r =>
    obtain ⟨e2, f2⟩ := toV_all r hl
    refine Rv.ret e (.bl _) fun Q q => ⟨_, _, rfl, .inl (SqL.of (e _ _ ha)), f1, f2, ?_⟩
    rw [e1, e2]
    exact q
end TLy
end
section
set_option maxRecDepth 100000
set_option maxHeartbeats 2000000
/-! isinstance of a caught error that may bear fields -/
namespace TLy
open PySem PySem.Spec PySem.Calls PyProof.Rows L2 PySem.W
section
variable {prog : Program} {w : World} {A : Around} {E : Value → Shared → Prop} {s : Shared} {K : PySem.W.Frag} {x D : Addr} {ox : Obj} {od : Option Obj}
theorem fo_data {C : Addr} {n : Str} {u v : Value} (hc : (clsIn K C).isSome = true) (ha : findIn K (.ref C) n = some (some u)) (hg : specialIn K u "__get__" = some (some v)) (ht : takesIn K u = some true) : findObj K C od n = some (.bind v u) := by
  cases hd : clsIn K C with
  | none => rw [hd] at hc; cases hc
  | some cd =>
    unfold findObj
    rw [hd, Option.bind_some, ha, Option.bind_some]
    simp [hg, ht]
/-- .__class__ of it -/
theorem cls_of {Q : Option Value → Shared → Prop} (C : ExcC K D) (X : K.In s.heap) (I : InstAt s.heap x ox D od) (h : Q (some (.ref D)) { s with toks := s.toks + 1 }) : wpAny (model prog w) A (getAttr? (.ref x) "__class__") Q E s := by
  have hf : findObj K D od "__class__" = some (.bind (.builtin "getset_descriptor.__get__") (.builtin "object.__class__")) := fo_data (by obtain ⟨cd, hc, _⟩ := any_some C.hd; rw [hc]; rfl) C.ha C.hn C.ht
  obtain ⟨hp, g, d, t, os⟩ := s
  have l0 := I.type (M := model prog w)
  have l3 := looks_find (M := model prog w) X I hf
  have sub : Looks (model prog w) hp (isInstance (.ref x) (.type "BaseException")) true := l0.andThen (looks_subIn X C.hs)
  have z2 : (Value.builtin "BaseException.__getattribute__" == Value.builtin "object.__getattribute__") = false := by decide +kernel
  have z1 : (onTheHeap (Value.ref D) && Value.builtin "BaseException.__getattribute__" == Value.builtin "object.__getattribute__") = false := by rw [z2]; rfl
  unfold getAttr? getAttrBy? getAttrBy
  refine wpAny_bind (wpAny_mkText (wpAny_bind (wpAny_attempt (wpAny_holding (wpAny_bind (l0.at (wpAny_bind ((looks_findIn X C.hg).at ?_))))))))
  show wpAny _ _ (if (onTheHeap (Value.ref D) && Value.builtin "BaseException.__getattribute__" == Value.builtin "object.__getattribute__") = true then _ else _) _ _ _
  rw [z1, if_neg Bool.false_ne_true]
  unfold getAttrByItsOwn hookBefore
  refine wpAny_bind ?_
  rw [if_pos (show onTheHeap (Value.ref D) = true from rfl)]
  refine (looks_findIn X C.hk).at (wpAny_bind (wpAny_attempt (wpAny_holding ?_)))
  unfold callGetattribute
  rw [show (false && onTheHeap (Value.builtin "BaseException.__getattribute__")) = false from rfl, if_neg Bool.false_ne_true]
  unfold boundAndCalled
  rw [PySem.F.excAttr_ValueError.ga.bind (.ref x)]
  refine wpAny_bind (wpAny_pure ?_)
  show wpAny _ _ (call (.builtin "BaseException.__getattribute__") [.ref x, .str "__class__" t]) _ _ _
  refine wpAny_call (codeAny_call_builtin PySem.F.excAttr_ValueError.ga.plain PySem.F.entry_bexc_ga ?_)
  refine @check_slot (model prog w) _ _ ⟨hp, g, d, t + 1, os⟩ "BaseException.__getattribute__" "BaseException" "__getattribute__" (.ref x) [.str "__class__" t] [] _ (by decide +kernel) (by decide +kernel) sub (PySem.F.args_bexc_ga (.ref x) (.str "__class__" t)) ?_
  unfold Builtin.«object.__getattribute__»
  refine wpAny_bind (wpAny_of_eq (a := ((Value.ref x : Value), [Value.str "__class__" t])) (by first | rfl | (simp only [slotArgs]; rfl)) ?_)
  refine wpAny_bind (wpAny_pure (wpAny_bind (l0.at (wpAny_bind (l3.at ?_)))))
  show wpAny _ _ (holding [Value.builtin "object.__class__"] (call (.builtin "getset_descriptor.__get__") [.builtin "object.__class__", .ref x, .ref D]) >>= ret) _ _ _
  refine wpAny_bind (wpAny_holding (wpAny_call (class_get (s := ⟨hp, g, d, t + 1, os⟩) (ox := ox) (od := od) X I C.hm ?_)))
  refine wpAny_pure ?_
  show wpAny _ _ (handedOut (.ref D)) _ _ _
  rw [handedOut_of (v := .ref D) rfl]
  first
    | exact wpAny_pure (wpAny_pure h)
    | exact wpAny_pure h
    | exact wpAny_pure (wpAny_bind (wpAny_pure (wpAny_pure h)))
theorem kitx_od (C : ExcC K D) : KitX K (.ref x) (.ref D) (fun h => InstAt h x ox D od) where
  ty := fun _ _ _ I => I.type
  it := fun _ _ X _ => by
    obtain ⟨cdD, hcD, _⟩ := any_some C.hd
    unfold clsIn at hcD
    split at hcD
    · rename_i c' d' cd' sl' ho
      intro A' Q' E' s' k q
      unfold isType loadHead
      exact wpAny_bind (wpAny_loadPart (k _ _ (X _ _ ho)) (wpAny_pure q))
    · cases hcD
  ne := fun h tp dd its n sl X htp => by
    obtain ⟨cdD, hcD, _⟩ := any_some C.hd
    refine Bool.eq_false_iff.mpr fun q => ?_
    have e : D = tp := Value.ref.inj (beq_iff_eq.mp q)
    subst e
    unfold clsIn at hcD
    split at hcD
    · rename_i c' d' cd' sl' ho
      have z := (X _ _ ho).symm.trans htp
      cases z
    · cases hcD
  ca := fun X I k => cls_of C X I k
end
/-- isinstance(e, c): e the exception that the suite holds, of whatever class -/
def rIsX (K : PySem.W.Frag) (a : Addr) (cls : Value) (d : Option Addr) : List V → Hp → VK → Prop := fun xs H Q => ∃ (D : Addr) (c : V) (cv : Value) (b : Bool), cls = .ref D ∧ ExcC K D ∧ (d = none ∨ ∃ (dd : Addr) (fs : List (Str × V)), d = some dd ∧ H dd = some (.xd fs)) ∧
  xs = [.ref a, c] ∧ (∀ u, RelV c u → u = cv) ∧ kitOne K (.ref D) cv = some b ∧ Q (.bl b) H
theorem call_isX {X : Cx} {a : Addr} {cls : Value} {d : Option Addr} {oe : Obj} {pn : List (Addr × Obj)} (hz : Zc cls d oe) (hf : ∃ vs, oe.data = .fields vs) : CallR (X.suite a ((a, oe) :: pn)) (.builtin "isinstance") (rIsX X.K a cls d) := by
  intro pins s σ H xs us Q I r h
  obtain ⟨D, c, cv, b, ecls, C, hd, rfl, hcv, e, q⟩ := h
  subst ecls
  cases r with
  | cons rx rr =>
    cases rr with
    | cons rt rr =>
      cases rr
      cases rx
      have ec := hcv _ rt
      subst ec
      obtain ⟨hget, _⟩ := I.pin (a, oe) (List.mem_append.mpr (.inl List.mem_cons_self))
      obtain ⟨vs, hv⟩ := hf
      have J : ∃ od, InstAt s.heap a oe D od := by
        rcases hd with rfl | ⟨dd, fs, rfl, hdd⟩
        · obtain ⟨oc, odx, oda, osl⟩ := oe
          obtain ⟨h1, h2⟩ := hz
          dsimp only at h1 h2 hv
          subst h1 h2 hv
          exact ⟨none, hget, rfl, rfl, trivial⟩
        · have hx : ObjOk X.prog X.w H s.heap dd (.xd fs) := I.hok dd _ hdd
          obtain ⟨mA, hns, hr⟩ := hx
          obtain ⟨od, ho, hl⟩ := lookIn_ns hns
          exact ⟨some od, hget, hz.1, by unfold notCls; rw [hv] <;> rfl, by rw [hz.2]; exact ho⟩
      obtain ⟨od, J⟩ := J
      exact kia_one (kitx_od C) I.kIn J e (fun z => nomatch z) fun tk => ⟨.bl b, H, I.kept (t' := tk) fun _ _ z => z, rfl, q⟩
end TLy
end
section
set_option maxRecDepth 100000
set_option maxHeartbeats 2000000
/-! defs that make lambdas: the tables of code objects go along -/
namespace TLy
open PySem PySem.Spec PyProof.Rows L2 LamX
/-- all but the tables -/
def flt (H : Hp) : Hp := fun b => match H b with
  | some (.tbl _) => none
  | o => o
theorem flt_sub (H : Hp) : Same (flt H) H := fun b o e => by
  unfold flt at e
  split at e
  · cases e
  · exact e
theorem flt_of {H : Hp} {b : Addr} {o : HO} (e : H b = some o) (n : ∀ ps, o ≠ .tbl ps) : flt H b = some o := by
  unfold flt
  split
  · rename_i ps z
    rw [e] at z
    cases z
    exact absurd rfl (n ps)
  · exact e
theorem flt_no {H : Hp} {b : Addr} {ps : Array Value} : flt H b ≠ some (.tbl ps) := fun e => by
  unfold flt at e
  split at e
  · cases e
  · rename_i h
    exact h ps e
theorem flt_none {H : Hp} {b : Addr} (e : H b = none) : flt H b = none := by
  unfold flt
  rw [e]
/-- a heap without tables stays itself -/
theorem flt_same {G H : Hp} (e : Same G (flt H)) (b : Addr) {o : HO} (h : G b = some o) : ∀ ps, o ≠ .tbl ps := fun ps z => by
  subst z
  exact flt_no (e _ _ h)
mutual
theorem Rep.flt {G : Hp} : ∀ {v : V} {x : PV}, Rep G v x → Rep (TLy.flt G) v x
  | _, _, .non => .non
  | _, _, .bl b => .bl b
  | _, _, .int i => .int i
  | _, _, .str s => .str s
  | _, _, .ty n => .ty n
  | _, _, .tup h r => .tup (flt_of h fun _ z => by cases z) (Reps.flt r)
  | _, _, .lst h r => .lst (flt_of h fun _ z => by cases z) (Reps.flt r)
theorem Reps.flt {G : Hp} : ∀ {vs : List V} {xs : List PV}, Reps G vs xs → Reps (TLy.flt G) vs xs
  | _, _, .nil => .nil
  | _, _, .cons r t => .cons (Rep.flt r) (Reps.flt t)
end
theorem Flds.flt {G : Hp} : ∀ {vs : List (Str × V)} {xs : List (Str × PV)}, Flds G vs xs → Flds (TLy.flt G) vs xs
  | _, _, .nil => .nil
  | _, _, .cons r t => .cons (Rep.flt r) (Flds.flt t)
theorem tabs_keep {T : List (Addr × Str)} {G H G2 H2 : Hp} {ms : List Addr} (t : Tabs T H) (h : ∀ b o, H b = some o → b ∉ ms → H2 b = some o) (hm : ∀ b ∈ ms, (∃ vs, H b = some (.lst vs)) ∨ ∃ C dx fs, H b = some (.ins C dx fs)) : Tabs T H2 := fun p hp => by
  obtain ⟨ps, h1, h2, h3⟩ := t p hp
  refine ⟨ps, h _ _ h1 (fun z => ?_), h2, fun pos cv hc => ?_⟩
  · rcases hm _ z with ⟨vs, e⟩ | ⟨C, dx, fs, e⟩ <;> (rw [h1] at e; cases e)
  · obtain ⟨c, e1, e2⟩ := h3 pos cv hc
    refine ⟨c, e1, h _ _ e2 fun z => ?_⟩
    rcases hm _ z with ⟨vs, e⟩ | ⟨C, dx, fs, e⟩ <;> (rw [e2] at e; unfold CodeO at e; cases e)
section
variable {G0 H0 G H G2 H2 : Hp} {bs : List Addr} {σ σ2 : L2.St} {τ τ' : TEnv}
theorem muts_cell {G0 H0 G H : Hp} {bs : List Addr} (s : StT G0 H0 bs G H σ τ) : ∀ b ∈ muts σ τ, (∃ vs, H b = some (.lst vs)) ∨ ∃ C dx fs, H b = some (.ins C dx fs) := fun b hb => by
  obtain ⟨i, o, c, e1, e2⟩ := mem_muts.mp hb
  obtain ⟨v, h1, a, ev, n, k, _⟩ := s.env i _ e1
  rw [e2] at h1
  cases h1
  cases ev
  cases c with
  | lst xs =>
    obtain ⟨vs, e, _⟩ := k
    exact .inl ⟨vs, e⟩
  | ins C fs =>
    obtain ⟨dx, vs, e, _⟩ := k
    exact .inr ⟨C, dx, vs, e⟩
/-- lent, all of the heap in sight -/
theorem StT.lendJ (s : StT G0 H0 bs G (flt H) σ τ) : StT G H (muts σ τ) G H σ (lentT τ) := by
  have l := s.lend
  refine ⟨Same.refl _, fun _ _ e _ => e, fun b o e => ⟨o, e⟩, fun b o e => flt_sub H b o (s.sub b o e), fun _ _ _ => rfl, fun b hb => ?_, l.len, fun i t e => ?_, l.dis⟩
  · obtain ⟨⟨o, e⟩, n⟩ := l.bor b hb
    exact ⟨⟨o, flt_sub H b o e⟩, n⟩
  · obtain ⟨v, h1, h2⟩ := l.env i t e
    refine ⟨v, h1, ?_⟩
    cases t with
    | val x => exact h2
    | mu o c =>
      obtain ⟨a, ev, n, k, p1, p2⟩ := h2
      obtain ⟨rfl, _⟩ := lentT_mu e
      exact ⟨a, ev, n, k.mono (Same.refl _) (fun o z => flt_sub H _ _ z), (fun z => Bool.noConfusion z), p2⟩
theorem StT.fltJ (s : StT G0 H0 bs G (flt H) σ τ) (sh : Shp τ τ') (s2 : StT G H (muts σ τ) G2 H2 σ2 (lentT τ')) (hσ : σ2 = σ) : StT G (flt H) (muts σ τ) (flt G2) (flt H2) σ2 (lentT τ') := by
  subst hσ
  have gn : ∀ b o, G b = some o → ∀ ps, o ≠ .tbl ps := fun b o h => flt_same s.sub b h
  have cel : ∀ {a : Addr} {c : Cell}, CelAt G2 H2 a c → CelAt (flt G2) (flt H2) a c := fun {a c} k => by
    cases c with
    | lst xs =>
      obtain ⟨vs, e, r⟩ := k
      exact ⟨vs, flt_of e (fun _ z => by cases z), r.flt⟩
    | ins C fs =>
      obtain ⟨dx, vs, e, r⟩ := k
      exact ⟨dx, vs, flt_of e (fun _ z => by cases z), r.flt⟩
  refine ⟨fun b o e => flt_of (s2.g b o e) (gn b o e), fun b o e nb => flt_of (s2.h b o (flt_sub H b o e) nb) (fun ps z => flt_no (by rw [z] at e; exact e)), fun b o e => ?_, fun b o e => ?_, fun b o e => ?_, s.lend.bor, s2.len, fun i t e => ?_, s2.dis⟩
  · by_cases hb : b ∈ muts σ2 τ
    · obtain ⟨i, o', c, e1, e2⟩ := mem_muts.mp hb
      obtain ⟨c', e3⟩ := sh.um i o' c e1
      obtain ⟨v, h1, a, ev, n, k, _⟩ := s2.env i (.mu false c') (by rw [lentT_get, e3]; rfl)
      rw [e2] at h1
      cases h1
      cases ev
      exact (cel k).ex
    · exact ⟨o, flt_of (s2.h b o (flt_sub H b o e) hb) (fun ps z => flt_no (by rw [z] at e; exact e))⟩
  · have e' := flt_sub G2 b o e
    exact flt_of (s2.sub b o e') (fun ps z => flt_no (by rw [z] at e; exact e))
  · have e' := s2.old b o (flt_sub H b o e)
    cases hg : G b with
    | none => exact flt_none (e'.trans hg)
    | some u => exact flt_of (e'.trans hg) (gn b u hg)
  · obtain ⟨v, h1, h2⟩ := s2.env i t e
    refine ⟨v, h1, ?_⟩
    cases t with
    | val x => exact Rep.flt h2
    | mu o c =>
      obtain ⟨a, ev, n, k, p1, p2⟩ := h2
      obtain ⟨rfl, _⟩ := lentT_mu e
      exact ⟨a, ev, flt_none n, cel k, (fun z => Bool.noConfusion z), p2⟩
end
/-! ### expressions -/
def EvJ (T : List (Addr × Str)) (te : TE) (τ : TEnv) (x : PV) (τ' : TEnv) : Prop := ∀ (G0 H0 : Hp) (bs : List Addr) (σ : L2.St) (G H : Hp), StT G0 H0 bs G (flt H) σ τ → Tabs T H → ∀ Q : VK,
  (∀ v G2 H2, StT G0 H0 bs G2 (flt H2) σ τ' → Tabs T H2 → Same G G2 → Rep G2 v x → Q v H2) → te σ H Q
def EaJ (T : List (Addr × Str)) (ta : TA) (τ : TEnv) (xs : List PV) (τ' : TEnv) : Prop := ∀ (G0 H0 : Hp) (bs : List Addr) (σ : L2.St) (G H : Hp), StT G0 H0 bs G (flt H) σ τ → Tabs T H → ∀ Q : List V → Hp → Prop,
  (∀ vs G2 H2, StT G0 H0 bs G2 (flt H2) σ τ' → Tabs T H2 → Same G G2 → Reps G2 vs xs → Q vs H2) → ta σ H Q
def EbJ (T : List (Addr × Str)) (tt : TT) (τ : TEnv) (b : Bool) (τ' : TEnv) : Prop := ∀ (G0 H0 : Hp) (bs : List Addr) (σ : L2.St) (G H : Hp), StT G0 H0 bs G (flt H) σ τ → Tabs T H → ∀ Q : Bool → Hp → Prop,
  (∀ G2 H2, StT G0 H0 bs G2 (flt H2) σ τ' → Tabs T H2 → Same G G2 → Q b H2) → tt σ H Q
section
variable {T : List (Addr × Str)} {τ τ1 τ2 : TEnv} {te : TE} {tt : TT} {ta : TA} {x y : PV} {xs : List PV} {b : Bool}
/-- what makes no lambda -/
theorem ej_of (h : EvR te (lentT τ) x (lentT τ1)) (sh : Shp τ τ1) : EvJ T te τ x τ1 := fun G0 H0 bs σ G H s t Q q =>
  h _ _ _ _ _ _ s.lendJ _ fun v G2 H2 s2 e2 r => q v (flt G2) H2 (s.back (vs := []) (s.fltJ sh s2 rfl) rfl sh (fun k hk => absurd hk (by simp)) fun k _ => rfl)
    (tabs_keep (G := G) (G2 := G2) t s2.h (muts_cell s.lendJ |> fun h b hb => by
      have hb' : b ∈ muts σ (lentT τ) := by
        obtain ⟨i, o, c, e1, e2⟩ := mem_muts.mp hb
        exact mem_muts.mpr ⟨i, false, c, by rw [lentT_get, e1]; rfl, e2⟩
      exact h b hb')) (fun b o e => flt_of (e2 b o e) (flt_same s.sub b e)) r.flt
theorem ebj_of (h : EvB tt (lentT τ) b (lentT τ1)) (sh : Shp τ τ1) : EbJ T tt τ b τ1 := fun G0 H0 bs σ G H s t Q q =>
  h _ _ _ _ _ _ s.lendJ _ fun G2 H2 s2 e2 => q (flt G2) H2 (s.back (vs := []) (s.fltJ sh s2 rfl) rfl sh (fun k hk => absurd hk (by simp)) fun k _ => rfl)
    (tabs_keep (G := G) (G2 := G2) t s2.h (fun b hb => by
      have hb' : b ∈ muts σ (lentT τ) := by
        obtain ⟨i, o, c, e1, e2⟩ := mem_muts.mp hb
        exact mem_muts.mpr ⟨i, false, c, by rw [lentT_get, e1]; rfl, e2⟩
      exact muts_cell s.lendJ b hb')) (fun b o e => flt_of (e2 b o e) (flt_same s.sub b e))
theorem eaj_nil : EaJ T tNil τ [] τ := fun _ _ _ _ G H s t Q q => q [] G H s t (Same.refl _) .nil
theorem eaj_cons (h : EvJ T te τ x τ1) (h2 : EaJ T ta τ1 xs τ2) : EaJ T (tCons te ta) τ (x :: xs) τ2 := fun _ _ _ _ G H s t Q q =>
  h _ _ _ _ _ _ s t _ fun v G1 H1 s1 t1 e1 r1 => h2 _ _ _ _ _ _ s1 t1 _ fun vs G2 H2 s2 t2 e2 r2 => q (v :: vs) G2 H2 s2 t2 (e1.trans e2) (.cons (r1.mono e2) r2)
/-- a lambda handed to a def -/
theorem ej_lam {TT : (XK → Hp → VK → Prop) → Hp → VK → Prop} {t : XK → TE} (h : ∀ (G0 H0 : Hp) (bs : List Addr) (σ : L2.St) (G H : Hp), StT G0 H0 bs G (flt H) σ τ → Tabs T H → ∀ Q : VK,
    (∀ v G2 H2, StT G0 H0 bs G2 (flt H2) σ τ → Tabs T H2 → Same G G2 → Rep G2 v x → Q v H2) → TT (fun E H' Q' => t E σ H' Q') H Q) : EvJ T (tLam T TT t) τ x τ := fun G0 H0 bs σ G H s tb Q q =>
  ⟨tb, fun H1 ext T1 => h G0 H0 bs σ G H1 (s.gr ⟨Same.refl _, fun b o e => flt_of (ext b o (flt_sub H b o e) fun ps z => flt_no (by rw [z] at e; exact e)) fun ps z => flt_no (by rw [z] at e; exact e),
    fun b o e => by
      have e' := s.sub b o e
      exact flt_of (ext b o (flt_sub H b o e') fun ps z => flt_no (by rw [z] at e'; exact e')) fun ps z => flt_no (by rw [z] at e'; exact e'), fun _ _ _ => rfl⟩) T1 Q q⟩
end
section
variable {T : List (Addr × Str)} {τ τ1 τ2 : TEnv} {te : TE} {tt : TT} {ta : TA} {x y : PV} {xs : List PV} {b : Bool} {sp : Sp} {E : XK}
theorem StT.grJ {G0 H0 G H G' H' : Hp} {bs : List Addr} {σ : L2.St} (s : StT G0 H0 bs G (flt H) σ τ) (g : Gr G H G' H') : StT G0 H0 bs (flt G') (flt H') σ τ ∧ Same G (flt G') := by
  have gf : ∀ b o, G b = some o → ∀ ps, o ≠ .tbl ps := fun b o e => flt_same s.sub b e
  have k1 : Same G (flt G') := fun b o e => flt_of (g.g b o e) (gf b o e)
  refine ⟨s.gr ⟨k1, fun b o e => flt_of (g.h b o (flt_sub H b o e)) fun ps z => flt_no (by rw [z] at e; exact e), fun b o e => flt_of (g.sub b o (flt_sub G' b o e)) fun ps z => flt_no (by rw [z] at e; exact e), fun b o e => ?_⟩, k1⟩
  have z := g.old b o (flt_sub H b o e)
  cases hg : G b with
  | none => exact flt_none (z.trans hg)
  | some u => exact flt_of (z.trans hg) (gf b u hg)
theorem tabs_gr {G H G' H' : Hp} (t : Tabs T H) (g : Gr G H G' H') : Tabs T H' := t.ext g.h
theorem StT.subJ {G0 H0 G H : Hp} {bs : List Addr} {σ : L2.St} (s : StT G0 H0 bs G (flt H) σ τ) : Same G H := fun b o e => flt_sub H b o (s.sub b o e)
/-- a def that makes no lambda, its arguments may -/
theorem ej_call (h : EaJ T ta τ xs τ1) (k : SpP sp E xs y) : EvJ T (tCall sp [] E ta) τ y τ1 := fun _ _ _ _ G H s t Q q =>
  h _ _ _ _ _ _ s t _ fun vs G1 H1 s1 t1 e1 r1 => by
    rw [List.append_nil]
    exact k G1 H1 s1.subJ vs r1 Q fun v G2 H2 g r2 => q v (flt G2) H2 (s1.grJ g).1 (tabs_gr t1 g) (e1.trans (s1.grJ g).2) r2.flt
theorem ebj_B (h : EvJ T te τ (.bl b) τ1) : EbJ T (tB te) τ b τ1 := fun _ _ _ _ G H s t Q q => h _ _ _ _ _ _ s t _ fun v G1 H1 s1 t1 e1 r1 => by
  cases r1
  exact ⟨b, rfl, q G1 H1 s1 t1 e1⟩
theorem ebj_not (h : EbJ T tt τ b τ1) : EbJ T (tNot tt) τ (!b) τ1 := fun _ _ _ _ G H s t Q q => h _ _ _ _ _ _ s t _ fun G1 H1 s1 t1 e1 => q G1 H1 s1 t1 e1
theorem ej_op {r : R2} {ta tb : TE} {z : PV} (ha : EvJ T ta τ x τ1) (hb : EvJ T tb τ1 y τ2) (hr : RvR r x y z) : EvJ T (tOp r ta tb) τ z τ2 := fun _ _ _ _ G H s t Q q =>
  ha _ _ _ _ _ _ s t _ fun v G1 H1 s1 t1 e1 r1 => hb _ _ _ _ _ _ s1 t1 _ fun u G2 H2 s2 t2 e2 r2 => hr G2 H2 s2.subJ v u (r1.mono e2) r2 Q fun w G3 H3 g r3 => q w (flt G3) H3 (s2.grJ g).1 (tabs_gr t2 g) ((e1.trans e2).trans (s2.grJ g).2) r3.flt
end
/-! ### statements -/
structure PostJ where
  nx : TEnv → Prop
  rt : PV → TEnv → Prop
def ExJ (T : List (Addr × Str)) (t : TS) (τ : TEnv) (P : PostJ) : Prop := ∀ (G0 H0 : Hp) (bs : List Addr) (σ : L2.St) (G H : Hp) (D : Ends), StT G0 H0 bs G (flt H) σ τ → Tabs T H →
  (∀ σ' τ' G' H', P.nx τ' → StT G0 H0 bs G' (flt H') σ' τ' → Tabs T H' → D.nx σ' H') → (∀ v x σ' τ' G' H', P.rt x τ' → StT G0 H0 bs G' (flt H') σ' τ' → Tabs T H' → Rep G' v x → D.rt v H') → t D σ H
section
variable {T : List (Addr × Str)} {τ τ1 τ2 : TEnv} {te : TE} {tt : TT} {t u : TS} {x y : PV} {b : Bool} {P : PostJ}
theorem xj_seq (M : TEnv → Prop) (h : ExJ T t τ { P with nx := M }) (h2 : ∀ τ', M τ' → ExJ T u τ' P) : ExJ T (tSeq t u) τ P := fun G0 H0 bs σ G H D s tb hn hr =>
  h G0 H0 bs σ G H _ s tb (fun σ' τ' G' H' m s' t' => h2 τ' m G0 H0 bs σ' G' H' D s' t' hn hr) hr
theorem xj_seq1 (h : ExJ T t τ { P with nx := fun τ' => τ' = τ1 }) (h2 : ExJ T u τ1 P) : ExJ T (tSeq t u) τ P := xj_seq _ h fun _ m => m ▸ h2
theorem xj_set {i : Nat} (h : EvJ T te τ x τ1) (q : P.nx (τ1.set i (some (.val x)))) : ExJ T (tAsg te (gName i)) τ P := fun G0 H0 bs σ G H D s tb hn hr =>
  h _ _ _ _ _ _ s tb _ fun v G1 H1 s1 t1 e1 r1 => hn _ _ G1 H1 q (s1.set i r1) t1
theorem xj_ret (h : EvJ T te τ x τ1) (q : P.rt x τ1) : ExJ T (tRet te) τ P := fun G0 H0 bs σ G H D s tb hn hr => h _ _ _ _ _ _ s tb _ fun v G1 H1 s1 t1 e1 r1 => hr v x σ τ1 G1 H1 q s1 t1 r1
theorem xj_next (q : P.nx τ) : ExJ T tNext τ P := fun G0 H0 bs σ G H D s tb hn hr => hn σ τ G H q s tb
theorem xj_if (h : EbJ T tt τ b τ1) (h1 : b = true → ExJ T t τ1 P) (h2 : b = false → ExJ T u τ1 P) : ExJ T (tIfS tt t u) τ P := fun G0 H0 bs σ G H D s tb hn hr =>
  h _ _ _ _ _ _ s tb _ fun G1 H1 s1 t1 e1 => by
    cases b with
    | true => exact h1 rfl _ _ _ _ _ _ D s1 t1 hn hr
    | false => exact h2 rfl _ _ _ _ _ _ D s1 t1 hn hr
theorem xj_gF (h : EbJ T tt τ false τ1) (h2 : ExJ T u τ1 P) : ExJ T (tSeq (tIfS tt t tNext) u) τ P :=
  xj_seq (fun τ' => τ' = τ1) (xj_if h (fun z => Bool.noConfusion z) fun _ => xj_next rfl) fun τ' m => m ▸ h2
end
/-! ### defs -/
def RetJ (T : List (Addr × Str)) (G H : Hp) (y : PV) (Q : VK) : Prop := ∀ v G' H', Same G G' → Same G' (flt H') → (∀ b o, flt H b = some o → flt H' b = some o) → (∀ b o, flt H b = some o → G' b = G b) → Tabs T H' → Rep G' v y → Q v H'
def spOfJ (T : List (Addr × Str)) (R : List PV → PV → Prop) : Sp := fun vs H Q _ => Tabs T H ∧ ∃ G xs y, Same G (flt H) ∧ Reps G vs xs ∧ R xs y ∧ RetJ T G H y Q
section
variable {P : Program} {w : World} {K : PySem.W.Frag} {mg : Str → Option Value} {base : Heap} {x qual : Str} {st : Stmt} {f : Addr} {fd : FuncData} {N ps : List Str} {k : Nat} {T : List (Addr × Str)}
theorem ok_pureJ {R : List PV → PV → Prop} (F : Fun K x qual st f fd) (S : FnScope N ps (defScope st)) (hl : ∀ xs y, R xs y → xs.length = ps.length) (hN : ps.length ≤ N.length)
    (body : ∀ (cdv : Value) (A : Around) (outer : List Env) (s : Shared) (H : Hp) (E : XK), Room k (A.deeper (envOfC qual (defScope st) s.heap.objs.size f cdv)) → ∀ xs y, R xs y →
      ∃ t, PSs (cxOf CX0 P w K mg base N qual (defScope st) f cdv A outer s H E).nox (defBody st) t ∧ ExJ T t (startT N.length xs) { nx := fun _ => y = .non, rt := fun z _ => z = y }) : FnOk P w K mg base CX0 (k + 1) f fd ps (spOfJ T R) := by
  refine F.ok S (fun vs H Q E h => ?_) (fun cdv A outer s H vs Q E hr h => ?_)
  · obtain ⟨_, G, xs, y, _, r, h, _⟩ := h
    rw [r.length]
    exact hl xs y h
  · obtain ⟨tb, G, xs, y, sub, r, h, q⟩ := h
    obtain ⟨t, ht, he⟩ := body cdv A outer s H E hr xs y h
    refine ⟨t, ht, he G (flt H) [] _ G H _ (st_start0 sub r (by rw [hl xs y h]; exact hN)) tb (fun σ' τ' G' H' z s' t' => ?_) (fun v x σ' τ' G' H' z s' t' rx => ?_)⟩
    · exact q .non G' H' s'.g s'.sub (fun b o e => s'.h b o e (by simp)) s'.old t' (by rw [show y = .non from z]; exact .non)
    · exact q v G' H' s'.g s'.sub (fun b o e => s'.h b o e (by simp)) s'.old t' (by rw [← show x = y from z]; exact rx)
end
/-- a def that makes lambdas is called -/
theorem ej_callJ {T : List (Addr × Str)} {R : List PV → PV → Prop} {τ τ1 : TEnv} {E : XK} {ta : TA} {xs : List PV} {y : PV} (h : EaJ T ta τ xs τ1) (k : R xs y) : EvJ T (tCall (spOfJ T R) [] E ta) τ y τ1 := fun _ _ _ _ G H s t Q q =>
  h _ _ _ _ _ _ s t _ fun vs G1 H1 s1 t1 e1 r1 => by
    rw [List.append_nil]
    exact ⟨t1, G1, xs, y, s1.sub, r1, k, fun v G2 H2 a1 a2 a3 a4 t2 r2 => q v G2 H2 (s1.gr ⟨a1, a3, a2, a4⟩) t2 (e1.trans a1) r2⟩
/-! ### for, over numbers -/
def ItC (wi : TI) (xs : List PV) : Prop := ∀ (σ : L2.St) (H : Hp) (R : It → Hp → Prop), (∀ J, Yld J (fun _ => none) xs → R J H) → wi σ H R
theorem itc_range1 {n : Int} (h1 : -(2 ^ 62) ≤ n) (h2 : n < 2 ^ 62) : ItC (iRng1 (tCons (tC (.int n)) tNil)) (rangeP 0 n.toNat) := fun σ H R q =>
  ⟨n, rfl, h1, h2, q _ yld_range⟩
theorem xj_for {T : List (Addr × Str)} {τ : TEnv} {t : TS} {P : PostJ} {wi : TI} {xs : List PV} {j : Nat} (I : Nat → TEnv → Prop) (hi : ItC wi xs) (h0 : I 0 τ)
    (hs : ∀ i x τ', xs[i]? = some x → I i τ' → ExJ T t (τ'.set j (some (.val x))) { nx := I (i + 1), rt := P.rt }) (hd : ∀ τ', I xs.length τ' → P.nx τ') : ExJ T (tFor wi (gName j) t) τ P := fun G0 H0 bs σ G H D s tb hn hr => by
  refine hi _ _ _ fun J hJ => ?_
  refine ⟨fun i m σ' H' => ∃ τ' G', i + m = xs.length ∧ I i τ' ∧ StT G0 H0 bs G' (flt H') σ' τ' ∧ Tabs T H', ⟨xs.length, τ, G, by omega, h0, s, tb⟩, ?_⟩
  rintro i m σ' H' ⟨τ', G', hm, hI, s', t'⟩
  obtain ⟨y1, y2⟩ := hJ i G' H' (fun _ _ z => by cases z) s'.subJ
  by_cases hl : i < xs.length
  · obtain ⟨go, yl⟩ := y1 xs[i] (List.getElem?_eq_getElem hl)
    have hE := hs i _ τ' (List.getElem?_eq_getElem hl) hI
    refine .inr ⟨go, fun σ3 H3 => ∃ τ3 G3, I (i + 1) τ3 ∧ StT G0 H0 bs G3 (flt H3) σ3 τ3 ∧ Tabs T H3, fun σ3 H3 ⟨τ3, G3, q, s3, t3⟩ => ⟨m - 1, by omega, τ3, G3, by omega, q, s3, t3⟩, fun v H3 hy => ?_⟩
    obtain ⟨G3, g3, r3⟩ := yl v H3 hy
    exact hE _ _ _ _ _ _ _ ((s'.grJ g3).1.set j r3.flt) (tabs_gr t' g3) (fun σ5 τ5 G5 H5 q s5 t5 => ⟨τ5, G5, q, s5, t5⟩) hr
  · have e : i = xs.length := by omega
    subst e
    exact .inl ⟨y2 rfl, hn σ' τ' G' H' (hd τ' hI) s' t'⟩
/-! ### a def that makes lambdas and changes its first argument -/
def RetJC (T : List (Addr × Str)) (G H : Hp) (a : Addr) (c : Cell) (y : PV) (Q : VK) : Prop := ∀ v G' H', Same G G' → (∀ b o, flt H b = some o → b ≠ a → flt H' b = some o) → Same G' (flt H') → (∀ b o, flt H b = some o → G' b = G b) → CelAt G' (flt H') a c → Tabs T H' → Rep G' v y → Q v H'
def spOfJC (T : List (Addr × Str)) (R : Cell → List PV → PV → Cell → Prop) : Sp := fun vs H Q _ => Tabs T H ∧ ∃ G a ws c xs y c', vs = .ref a :: ws ∧ Same G (flt H) ∧ G a = none ∧ CelAt G (flt H) a c ∧ Reps G ws xs ∧ R c xs y c' ∧ RetJC T G H a c' y Q
theorem ej_callJC {T : List (Addr × Str)} {R : Cell → List PV → PV → Cell → Prop} {τ : TEnv} {E : XK} {y : PV} {i : Nat} {o : Bool} {c c' : Cell} (h : τ[i]? = some (some (.mu o c))) (k : R c [] y c') :
    EvJ T (tCall (spOfJC T R) [] E (tCons (tVar i) tNil)) τ y (τ.set i (some (.mu o c'))) := fun G0 H0 bs σ G H s t Q q => by
  obtain ⟨v, hv, a, ev, n, kc, _⟩ := s.env i _ h
  subst ev
  refine ⟨_, hv, ?_⟩
  exact ⟨t, G, a, [], c, [], y, c', rfl, s.sub, n, kc, .nil, k, fun w G2 H2 a1 a2 a3 a4 a5 t2 r2 => q w G2 H2 (s.wr h hv a1 a2 a3 a4 a5) t2 a1 r2⟩
section
variable {P : Program} {w : World} {K : PySem.W.Frag} {mg : Str → Option Value} {base : Heap} {x qual : Str} {st : Stmt} {f : Addr} {fd : FuncData} {N ps : List Str} {k : Nat} {T : List (Addr × Str)}
theorem ok_cellJ {R : Cell → List PV → PV → Cell → Prop} (F : Fun K x qual st f fd) (S : FnScope N ps (defScope st)) (hl : ∀ c xs y c', R c xs y c' → xs.length + 1 = ps.length) (hN : ps.length ≤ N.length)
    (body : ∀ (cdv : Value) (A : Around) (outer : List Env) (s : Shared) (H : Hp) (E : XK), Room k (A.deeper (envOfC qual (defScope st) s.heap.objs.size f cdv)) → ∀ c xs y c', R c xs y c' →
      ∃ t, PSs (cxOf CX0 P w K mg base N qual (defScope st) f cdv A outer s H E).nox (defBody st) t ∧ ExJ T t (startC N.length c xs) { nx := fun _ => False, rt := fun z τ => z = y ∧ ∃ i : Nat, τ[i]? = some (some (Sl.mu false c')) }) : FnOk P w K mg base CX0 (k + 1) f fd ps (spOfJC T R) := by
  refine F.ok S (fun vs H Q E h => ?_) (fun cdv A outer s H vs Q E hr h => ?_)
  · obtain ⟨_, G, a, ws, c, xs, y, c', rfl, _, _, _, r, h, _⟩ := h
    rw [List.length_cons, r.length]
    exact hl _ _ _ _ h
  · obtain ⟨tb, G, a, ws, c, xs, y, c', rfl, sub, ga, kc, r, h, q⟩ := h
    obtain ⟨t, ht, he⟩ := body cdv A outer s H E hr c xs y c' h
    refine ⟨t, ht, he G (flt H) [a] _ G H _ (st_startC sub ga kc r (by rw [hl _ _ _ _ h]; exact hN)) tb (fun σ' τ' G' H' z s' t' => z.elim) (fun v x σ' τ' G' H' z s' t' rx => ?_)⟩
    obtain ⟨z1, i, e⟩ := z
    obtain ⟨u, h1, a', ea, n, k', _, p⟩ := s'.env i _ e
    have : a' = a := by simpa using p rfl
    subst this
    exact q v G' H' s'.g (fun b o z nb => s'.h b o z (by simpa using nb)) s'.sub s'.old k' t' (by rw [← show x = y from z1]; exact rx)
end
end TLy
end
section
set_option maxRecDepth 100000
set_option maxHeartbeats 1000000
namespace K10
open PySem PySem.Spec PyProof.Rows L2 TLy TL NumText LamX
/-- the classes of errors, as the except clause and isinstance see them -/
structure ToldK (K : PySem.W.Frag) (mg : Str → Option Value) (a : Nat → Addr) : Prop where
  gTE : mg "TraceError" = some (.ref (a 1))
  gIT : mg "InvalidText" = some (.ref (a 2))
  gIS : mg "InvalidSort" = some (.ref (a 3))
  gTM : mg "TooMany" = some (.ref (a 4))
  e2 : PySem.W.exmOne K (.ref (a 2)) (.ref (a 1)) = some true
  e3 : PySem.W.exmOne K (.ref (a 3)) (.ref (a 1)) = some true
  e4 : PySem.W.exmOne K (.ref (a 4)) (.ref (a 1)) = some true
  k24 : PySem.W.kitOne K (.ref (a 2)) (.ref (a 4)) = some false
  k22 : PySem.W.kitOne K (.ref (a 2)) (.ref (a 2)) = some true
  k34 : PySem.W.kitOne K (.ref (a 3)) (.ref (a 4)) = some false
  k32 : PySem.W.kitOne K (.ref (a 3)) (.ref (a 2)) = some false
  k33 : PySem.W.kitOne K (.ref (a 3)) (.ref (a 3)) = some true
  k44 : PySem.W.kitOne K (.ref (a 4)) (.ref (a 4)) = some true
  x2 : ExcC K (a 2)
  x3 : ExcC K (a 3)
  x4 : ExcC K (a 4)
  f4 : XfC K (a 4)
  l4 : PySem.W.findIn K (.ref (a 4)) "limit" = some none
  n_isinstance : mg "isinstance" = none
  n_str : mg "str" = none
/-- what becomes of an error -/
def hTold (a : Nat → Addr) (Q : VK) : XK := fun cls d H' => (cls = .ref (a 2) ∧ d = none ∧ Q (.str "text") H') ∨ (cls = .ref (a 3) ∧ d = none ∧ Q (.str "sort") H') ∨
  (cls = .ref (a 4) ∧ ∃ (dd : Addr) (n : Int), d = some dd ∧ H' dd = some (.xd [("limit", .int n)]) ∧ n.natAbs.log2 < 1920 ∧ (toString n : Str).length ≤ 1000 ∧ Q (.str ("many " ++ toString n)) H')
/-- _law_told(x): try: return [x()] .. -/
def TTlaw (a : Nat → Addr) : (XK → Hp → VK → Prop) → Hp → VK → Prop := fun tl H Q => tl (hTold a Q) H fun v H' => [v].length ≤ sizeLine ∧ ∀ l, H' l = none → Q (.ref l) (upd H' l (.lst [v]))
abbrev tRx (K : PySem.W.Frag) (a : Addr) (cls : Value) (d : Option Addr) (C : Addr) : TE := tCB (rIsX K a cls d) (tCons (tVar 1) (tCons (tC (.ref C)) tNil))
theorem told_law {X : Cx} {a : Nat → Addr} {q : Str} {g : Addr} {cdg : Value} (T : ToldK X.K X.mg a) : GivesTo X N__law_told "_law_told" (defScope s__law_told) g cdg (defBody s__law_told) "call" q (TTlaw a) := by
  intro f c' s H Q tl act hc h
  refine ⟨_, pss_one (ps_try_as (X := (cxOf C8.CX0 X.prog X.w X.K X.mg X.base N__law_told "_law_told" (defScope s__law_told) g cdg X.A X.stack s H C8.E0).nox) (i := 1) (c := .ref (a 1)) (Wout := fun _ _ _ _ => False)
      (tb := fun W D σ H => ∃ Ech : XK, (∀ cls d σ' H', Ech cls d H' → σ'.length = 2 → W cls d σ' H') ∧ σ[0]? = some (some (.ref f)) ∧ H c' = some (CodeO c' q) ∧ tl Ech H (fun v H' => [v].length ≤ sizeLine ∧ ∀ l, H' l = none → D.rt (.ref l) (upd H' l (.lst [v]))))
      (ts := fun e cls d => tSeq (tIfS (tB (tRx X.K e cls d (a 4))) (tRet (tOp (fun x y H Q => ∃ i j, x = .str i ∧ y = .str j ∧ i.length + j.length ≤ sizeLine ∧ Q (.str (i ++ j)) H) (tC (.str "many ")) (tCB (fun xs H Q => ∃ i, xs = [.int i] ∧ i.natAbs.log2 < 1920 ∧ Q (.str (toString i)) H) (tCons (tXf e cls d (a 4) "limit" (tVar 1)) tNil)))) tNext)
        (tRet (tIf (tB (tRx X.K e cls d (a 2))) (tC (.str "text")) (tIf (tB (tRx X.K e cls d (a 3))) (tC (.str "sort")) (tC (.str "other"))))))
      rfl rfl sc__law_told.nd rfl rfl ⟨by rfl, by decide, .inl T.gTE⟩ LamX.takes0 (fun W pn xe tk _ => ?_) (fun e oe cls d pn hz hf => ?_)), ?_⟩
  · refine ⟨fun pins s' σ H' D I h' => ?_⟩
    obtain ⟨Ech, hW, h1, h2, h3⟩ := h'
    have tk' : Takes ((cxOf C8.CX0 X.prog X.w X.K X.mg X.base N__law_told "_law_told" (defScope s__law_told) g cdg X.A X.stack s H C8.E0).tr pn xe) (fun cls d σ H => σ.length = 2 → W cls d σ H) :=
      fun e s' ⟨a, B, sI, pins, σ, H, cls, d, e1, J, nb, up, sky, na, os, ag, w⟩ => tk e s' ⟨a, B, sI, pins, σ, H, cls, d, e1, J, nb, up, sky, na, os, ag, w J.len⟩
    exact (pss_one (ps_ret (pe_lst (pa_cons (act _ pn xe Ech _ _ tk' hW) pa_nil)))).run pins s' σ H' D I ⟨h1, h2, h3⟩
  · exact pss_cons (ps_if (pt_val (pe_callB (call_isX hz hf) (by rfl) T.n_isinstance (by decide +kernel) (pa_cons (pv 1) (pa_cons (pe_glob (v := .ref (a 4)) (by rfl) T.gTM rfl) pa_nil)))) (pss_one (ps_ret (pe_op op_add_str pe_str (pe_callTy call_str_int (by rfl) T.n_str (by decide +kernel) (pa_cons (pe_xf T.f4 T.l4 hz hf (pv 1)) pa_nil))))) pss_nil)
      (pss_one (ps_ret (pe_ifExp (pt_val (pe_callB (call_isX hz hf) (by rfl) T.n_isinstance (by decide +kernel) (pa_cons (pv 1) (pa_cons (pe_glob (v := .ref (a 2)) (by rfl) T.gIT rfl) pa_nil)))) pe_str (pe_ifExp (pt_val (pe_callB (call_isX hz hf) (by rfl) T.n_isinstance (by decide +kernel) (pa_cons (pv 1) (pa_cons (pe_glob (v := .ref (a 3)) (by rfl) T.gIS rfl) pa_nil)))) pe_str pe_str))))
  · refine ⟨hTold a Q, fun cls d σ' H' hh hl => ?_, rfl, hc, h⟩
    obtain ⟨s0, s1, rfl⟩ : ∃ s0 s1, σ' = [s0, s1] := by
      match σ', hl with
      | [s0, s1], _ => exact ⟨s0, s1, rfl⟩
    have isq : ∀ {e : Addr} {cls : Value} {d : Option Addr} {C D : Addr} {b : Bool} {R : Bool → Hp → Prop} (x : ExcC X.K D), cls = .ref D → (d = none ∨ ∃ (dd : Addr) (fs : List (Str × V)), d = some dd ∧ H' dd = some (.xd fs)) → PySem.W.kitOne X.K (.ref D) (.ref C) = some b → R b H' →
        tB (tRx X.K e cls d C) [s0, some (.ref e)] H' R := fun {e cls d C D b R} x e1 e2 e3 e4 =>
      ⟨.ref e, rfl, D, .ref C, .ref C, b, e1, x, e2, rfl, fun u r => r, e3, b, rfl, e4⟩
    rcases hh with ⟨rfl, rfl, hQ⟩ | ⟨rfl, rfl, hQ⟩ | ⟨rfl, dd, n, rfl, hdd, hlog, hlen, hQ⟩
    · refine ⟨true, T.e2, fun _ e ne => ?_, fun z => Bool.noConfusion z⟩
      exact isq T.x2 rfl (.inl rfl) T.k24 (isq T.x2 rfl (.inl rfl) T.k22 hQ)
    · refine ⟨true, T.e3, fun _ e ne => ?_, fun z => Bool.noConfusion z⟩
      exact isq T.x3 rfl (.inl rfl) T.k34 (isq T.x3 rfl (.inl rfl) T.k32 (isq T.x3 rfl (.inl rfl) T.k33 hQ))
    · refine ⟨true, T.e4, fun _ e ne => ?_, fun z => Bool.noConfusion z⟩
      refine isq T.x4 rfl (.inr ⟨dd, _, rfl, hdd⟩) T.k44 ?_
      refine ⟨.ref e, rfl, rfl, rfl, dd, [("limit", .int n)], .int n, rfl, hdd, rfl, n, rfl, hlog, _, _, rfl, rfl, ?_, hQ⟩
      refine small ?_
      show 5 + _ ≤ _
      omega
/-- what _law_told answers -/
inductive ToldIs (a : Nat → Addr) : Sum PV Er → PV → Prop where
  | val (v : PV) : ToldIs a (.inl v) (.lst [v])
  | text : ToldIs a (.inr ⟨a 2, none⟩) (.str "text")
  | sort : ToldIs a (.inr ⟨a 3, none⟩) (.str "sort")
  | many (n : Int) (h : n.natAbs.log2 < 1920) (hl : (toString n : Str).length ≤ 1000) : ToldIs a (.inr ⟨a 4, some ("limit", .int n)⟩) (.str ("many " ++ toString n))
theorem muts_nil {σ : L2.St} {τ : TEnv} (hv : ∀ (k : Nat) (o : Bool) (c : Cell), τ[k]? ≠ some (some (.mu o c))) : muts σ τ = [] := by
  cases h : muts σ τ with
  | nil => rfl
  | cons b l =>
    obtain ⟨i, o, c, e, _⟩ := mem_muts.mp (show b ∈ muts σ τ by rw [h]; exact List.mem_cons_self)
    exact absurd e (hv i o c)
theorem lent_nil {τ : TEnv} (hv : ∀ (k : Nat) (o : Bool) (c : Cell), τ[k]? ≠ some (some (.mu o c))) : lentT τ = τ := by
  refine List.ext_getElem? fun k => ?_
  rw [lentT_get]
  cases h : τ[k]? with
  | none => rfl
  | some t =>
    cases t with
    | none => rfl
    | some s =>
      cases s with
      | val x => rfl
      | mu o c => exact absurd h (hv k o c)
theorem told_ev {a : Nat → Addr} {T : List (Addr × Str)} {R : List PV → Sum PV Er → Prop} {τ : TEnv} {ta : TA} {xs : List PV} {r : Sum PV Er} {y : PV} (hv : ∀ (k : Nat) (o : Bool) (c : Cell), τ[k]? ≠ some (some (.mu o c)))
    (h : EvA ta τ xs τ) (hR : R xs r) (hy : ToldIs a r y) : EvJ T (tLam T (TTlaw a) fun E => tCall (spOfE R) [] E ta) τ y τ := by
  refine ej_lam fun G0 H0 bs σ G H s t Q q => ?_
  have l := s.lendJ
  rw [muts_nil hv, lent_nil hv] at l
  -- where it goes on, of whatever became of the heap
  have go : ∀ {v : V} {G' H' : Hp}, Same G G' → Same G' H' → Same H H' → (∀ b o, H b = some o → G' b = G b) → Rep G' v y → Q v H' := fun {v G' H'} e1 e2 e3 e4 rv => by
    have gf : ∀ b o, G b = some o → ∀ ps, o ≠ .tbl ps := fun b o e => flt_same s.sub b e
    refine q v (flt G') H' (s.gr ⟨fun b o e => flt_of (e1 b o e) (gf b o e), fun b o e => flt_of (e3 b o (flt_sub H b o e)) fun ps z => flt_no (by rw [z] at e; exact e),
      fun b o e => flt_of (e2 b o (flt_sub G' b o e)) fun ps z => flt_no (by rw [z] at e; exact e), fun b o e => ?_⟩) (tabs_keep (G := G) (G2 := G') (ms := []) t (fun b o e _ => e3 b o e) (fun b hb => absurd hb (by simp))) (fun b o e => flt_of (e1 b o e) (gf b o e)) rv.flt
    have z := e4 b o (flt_sub H b o e)
    cases hg : G b with
    | none => exact flt_none (z.trans hg)
    | some u => exact flt_of (z.trans hg) (gf b u hg)
  cases hy with
  | val v =>
    refine ev_call (sp := spOfE R) (E := hTold a Q) h (spEv hR) G H [] σ G H l _ fun v' G2 H2 s2 e2 r2 => ⟨small (by show 1 ≤ _; omega), fun p hp => ?_⟩
    have hp2 : G2 p = none := s2.sub.free hp
    have nG : Same G2 (upd G2 p (.lst [v'])) := fun b u z => by rw [upd_ne (ne_of_none z hp2)]; exact z
    have hH : ∀ b o, H b = some o → H2 b = some o := fun b o e => s2.h b o e (by simp)
    refine go (G' := upd G2 p (.lst [v'])) (e2.trans nG) (fun b o e => ?_) (fun b o e => ?_) (fun b o e => ?_) (.lst upd_same (.cons (r2.mono nG) .nil))
    · by_cases hb : b = p
      · subst hb; rw [upd_same] at e ⊢; exact e
      · rw [upd_ne hb] at e ⊢; exact s2.sub b o e
    · rw [upd_ne (ne_of_none (hH b o e) hp)]; exact hH b o e
    · rw [upd_ne (ne_of_none (hH b o e) hp)]; exact s2.old b o e
  | text =>
    exact ee_call (sp := spOfE R) (E := hTold a Q) h (spEe hR) G H [] σ G H l (fun cls d G' H' a1 a2 a3 a4 a5 a6 => .inl ⟨a6.1, a6.2, go a1 a2 (fun b o e => a3 b o e (by simp)) a5 (.str _)⟩) _
  | sort =>
    exact ee_call (sp := spOfE R) (E := hTold a Q) h (spEe hR) G H [] σ G H l (fun cls d G' H' a1 a2 a3 a4 a5 a6 => .inr (.inl ⟨a6.1, a6.2, go a1 a2 (fun b o e => a3 b o e (by simp)) a5 (.str _)⟩)) _
  | many n hn hl =>
    refine ee_call (sp := spOfE R) (E := hTold a Q) h (spEe hR) G H [] σ G H l (fun cls d G' H' a1 a2 a3 a4 a5 a6 => ?_) _
    obtain ⟨e1, dd, e2, e3⟩ := a6
    exact .inr (.inr ⟨e1, dd, n, e2, e3, hn, hl, go a1 a2 (fun b o e => a3 b o e (by simp)) a5 (.str _)⟩)
end K10
end
section
set_option maxRecDepth 100000
set_option maxHeartbeats 4000000
namespace K10
open PySem PySem.Spec PyProof.Rows L2 TLy TL NumText
/-! steps, one by one -/
local macro_rules | `(tactic| walk_at "ev") => `(tactic| first
  | exact ev_var rfl
  | exact ev_int
  | exact ev_str
  | exact ev_bl
  | exact ev_non
  | exact ev_ty
  | exact ea_nil
  | exact eo_none
  | exact r_add
  | exact r_sub
  | exact r_lt
  | exact r_le
  | exact r_gt
  | exact r_ge
  | exact r_eqI
  | exact r_neI
  | exact r_eqS
  | exact r_neS
  | exact r_leS
  | exact r_inSign
  | exact r_isN
  | exact r_notN
  | exact u_neg
  | exact c_intI
  | exact c_abs
  | exact c_ord
  | exact c_lenT
  | exact c_lenL
  | exact c_all
  | exact Nat.le_of_ble_eq_true rfl
  | exact c_tupL
  | exact c_lstL
  | exact c_lstT
  | exact u_slT
  | exact u_slL
  | exact tg_name
  | exact tgs_nil
  | ((with_reducible refine' ev_lenM ?_) <;> rfl)
  | ((with_reducible refine' ev_op ?_ ?_ ?_) <;> try walk_at "ev")
  | ((with_reducible refine' ev_un ?_ ?_) <;> try walk_at "ev")
  | ((with_reducible refine' ea_cons ?_ ?_) <;> try walk_at "ev")
  | ((with_reducible refine' eo_some ?_) <;> try walk_at "ev")
  | ((with_reducible refine' ev_cb ?_ ?_) <;> try walk_at "ev")
  | ((with_reducible refine' ev_sl ?_ ?_ ?_ ?_) <;> try walk_at "ev")
  | ((with_reducible refine' ev_chain ?_ ?_ ?_ ?_ ?_) <;> try walk_at "ev")
  | ((with_reducible refine' eb_test ?_) <;> try walk_at "ev")
  | ((with_reducible refine' eb_B ?_) <;> try walk_at "ev")
  | ((with_reducible refine' eb_not ?_) <;> try walk_at "ev")
  | ((with_reducible refine' eb_andP ?_ ?_) <;> try walk_at "ev")
  | ((with_reducible refine' eb_orP ?_ ?_) <;> try walk_at "ev")
  | ((with_reducible refine' ev_andP ?_ ?_) <;> try walk_at "ev")
  | ((with_reducible refine' ev_orP ?_ ?_) <;> try walk_at "ev")
  | ((with_reducible refine' ev_notP ?_) <;> try walk_at "ev")
  | ((with_reducible refine' ev_tup ?_ ?_) <;> try walk_at "ev")
  | ((with_reducible refine' ev_lst ?_ ?_) <;> try walk_at "ev")
  | ((with_reducible refine' ev_call ?_ ?_) <;> first | assumption | walk_at "ev" | skip)
  | ((with_reducible refine' tg_tup ?_ ?_) <;> try walk_at "ev")
  | ((with_reducible refine' tgs_cons ?_ ?_) <;> try walk_at "ev")
  | (refine' r_mul ?_)
  | (refine' r_modN ?_)
  | (refine' r_fdivN ?_)
  | (refine' r_pow ?_)
  | (refine' r_addS ?_)
  | (refine' r_catT ?_)
  | (refine' r_catL ?_)
  | (refine' r_ixT ?_)
  | (refine' r_ixL ?_)
  | (refine' r_ixS ?_ ?_ <;> first | exact len_sz (by omega) | exact at_get _ _ (by assumption) | skip)
  | (refine' u_slS ?_ <;> first | exact len_sz (by omega) | skip)
  | (refine' c_lenS ?_ <;> first | exact len_sz (by omega) | skip)
  | (refine' c_strI ?_)
  | (refine' c_intS ?_ ?_)
  | with_reducible exact isi_NB
  | with_reducible exact isi_NI
  | with_reducible exact isi_NS
  | with_reducible exact isi_NT
  | with_reducible exact isi_NL
  | with_reducible exact isi_BB
  | with_reducible exact isi_BI
  | with_reducible exact isi_BS
  | with_reducible exact isi_BT
  | with_reducible exact isi_BL
  | with_reducible exact isi_IB
  | with_reducible exact isi_II
  | with_reducible exact isi_IS
  | with_reducible exact isi_IT
  | with_reducible exact isi_IL
  | with_reducible exact isi_SB
  | with_reducible exact isi_SI
  | with_reducible exact isi_SS
  | with_reducible exact isi_ST
  | with_reducible exact isi_SL
  | with_reducible exact isi_TB
  | with_reducible exact isi_TI
  | with_reducible exact isi_TS
  | with_reducible exact isi_TT
  | with_reducible exact isi_TL
  | with_reducible exact isi_LB
  | with_reducible exact isi_LI
  | with_reducible exact isi_LS
  | with_reducible exact isi_LT
  | with_reducible exact isi_LL
  | (refine' r_eqD ?_ ?_ ?_ ?_)
  | (refine' r_neD ?_ ?_ ?_ ?_)
  | (intro _h; walk_at "ev"))

abbrev Cup := Int × Int
abbrev cupC (u : Cup) : Cell := .lst [.int u.1, .int u.2]
def rollF (u : Cup) (m : Int) : Int × Cup :=
  if 0 < u.1 then (u.1.fmod m, (u.1.fdiv m, u.2)) else ((((u.2 * 31253 + 70123).fmod 1048576).fdiv 179).fmod m, (u.1, (u.2 * 31253 + 70123).fmod 1048576))
theorem rollF_lt (u : Cup) {m : Int} (h : 0 < m) : 0 ≤ (rollF u m).1 ∧ (rollF u m).1 < m := by
  unfold rollF
  split
  · exact ⟨Int.fmod_nonneg_of_pos _ h, Int.fmod_lt_of_pos _ h⟩
  · exact ⟨Int.fmod_nonneg_of_pos _ h, Int.fmod_lt_of_pos _ h⟩
def someF (u : Cup) (l : List PV) : PV × Cup := (l.getD (rollF u l.length).1.toNat .non, (rollF u l.length).2)
theorem someF_at (u : Cup) {l : List PV} (h : 0 < l.length) : atI l (rollF u l.length).1 = some (someF u l).1 := by
  obtain ⟨h1, h2⟩ := rollF_lt u (m := l.length) (by omega)
  obtain ⟨n, e⟩ := Int.eq_ofNat_of_zero_le h1
  have hn : n < l.length := by rw [e] at h2; omega
  rw [e, atI_nat (v := l.getD n .non)]
  · unfold someF
    rw [e]
    rfl
  · rw [List.getD_eq_getElem?_getD, List.getElem?_eq_getElem hn]
    rfl
theorem someF_mem (u : Cup) {l : List PV} (h : 0 < l.length) : (someF u l).1 ∈ l := by
  obtain ⟨h1, h2⟩ := rollF_lt u (m := l.length) (by omega)
  show l.getD (rollF u l.length).1.toNat .non ∈ l
  have hn : (rollF u l.length).1.toNat < l.length := by omega
  rw [List.getD_eq_getElem?_getD, List.getElem?_eq_getElem hn]
  exact List.getElem_mem hn
section
variable {P : Program} {w : World} {K : PySem.W.Frag} {mg : Str → Option Value} {base : Heap} {a : Nat → Addr} {d : Nat → FuncData}
/-! ### the cup -/
def cell0 (l : List Int) : Int := if l.headD 0 < 0 then -l.headD 0 else l.headD 0
def cupF (l : List Int) : Cup := (if 10 ^ 18 ≤ cell0 l then (cell0 l).fdiv 367 else 0, (cell0 l * 1163 + 112121).fmod 1048576)
def R_law_cup : List PV → List PV → Prop := fun xs ys => ∃ l : List Int, xs = [.lst (l.map .int)] ∧ l.length ≤ 100000 ∧ ys = [.int (cupF l).1, .int (cupF l).2]
theorem ok__law_cup (T : Txt K mg a d) : FnOk P w K mg base CX0 1 (a 25) (d 25) ["script"] (spOfN R_law_cup) := by
  refine ok_new T._law_cup.F sc__law_cup (fun xs y h => by obtain ⟨l, rfl, _⟩ := h; rfl) (by decide) (fun cdv A outer s H E hr xs y h => ?_)
  obtain ⟨l, rfl, hl, rfl⟩ := h
  refine ⟨_, _, [some (.val (.lst (l.map .int))), some (.val (.int (cell0 l)))], [some (.val (.lst (l.map .int))), some (.val (.int (cell0 l)))], (pss_cons (ps_set (i := 1) sc__law_cup.nd rfl (by first | exact Or.inl rfl | exact Or.inr rfl) (pe_callB call_abs (by rfl) T.n_abs (by decide +kernel) (pa_cons (pe_ix ix_list (pe_op op_cat (pe_callTy call_list_of (by rfl) T.n_list (by decide +kernel) (pa_cons (pv 0) pa_nil)) (pe_lst (pa_cons pe_int pa_nil))) pe_int (fun _ _ => rfl)) pa_nil)))
      (pss_one (ps_ret (pe_lst (pa_cons (pe_ifExp (pt_cmpR op_ge (pv 1) (pe_op op_pow pe_int pe_int) (nomark _)) (pe_op op_fdivN (pv 1) pe_int) pe_int) (pa_cons (pe_op op_modN (pe_callTy call_int1 (by rfl) T.n_int (by decide +kernel) (pa_cons (pe_op op_add (pe_op op_mul (pv 1) pe_int) pe_int) pa_nil)) pe_int) pa_nil)))))), ?_, ?_⟩
  · show Exec E _ [some (.val (.lst (l.map .int))), none] _
    refine' ex_set (x := .int (cell0 l)) (τ1 := [some (.val (.lst (l.map .int))), none]) (ev_cb (xs := [.int (l.headD 0)]) (ea_cons (ev_op (y := .int 0) (x := .lst (l.map .int ++ [.int 0])) ?ga ev_int (r_ixL ?gb)) ea_nil) c_abs) rfl
    case ga => exact ev_op (ev_cb (ea_cons (ev_var rfl) ea_nil) c_lstL) (ev_new (en_lst (ea_cons ev_int ea_nil) (by decide))) (r_catL (by rw [List.length_map]; exact Nat.le_trans (Nat.add_le_add_right hl 1) (by decide)))
    case gb => cases l <;> exact atI_nat (j := 0) rfl
  · refine en_lst (ea_cons (ev_if (τ1 := [some (.val (.lst (l.map .int))), some (.val (.int (cell0 l)))]) (τ2 := [some (.val (.lst (l.map .int))), some (.val (.int (cell0 l)))]) (b := decide (10 ^ 18 ≤ cell0 l)) (x := .int (cupF l).1) ?ga (fun z => ?gb) (fun z => ?gc)) (ea_cons ?gd ea_nil)) (Nat.le_of_ble_eq_true rfl)
    case ga =>
      refine eb_test (ev_op (ev_var rfl) (ev_op ev_int ev_int (r_pow ⟨by decide, by decide, by decide⟩)) r_ge)
    case gb =>
      refine ev_is (x := .int ((cell0 l).fdiv 367)) (ev_op (ev_var rfl) ev_int (r_fdivN ⟨by decide, by decide⟩)) ?_
      unfold cupF
      rw [if_pos (of_decide_eq_true z)]
    case gc =>
      refine ev_is (x := .int 0) ev_int ?_
      unfold cupF
      rw [if_neg (of_decide_eq_false z)]
    case gd =>
      refine ev_op (ev_cb (ea_cons (ev_op (ev_op (ev_var rfl) ev_int (r_mul (.inr ⟨by decide, by decide⟩))) ev_int r_add) ea_nil) c_intI) ev_int (r_modN (by decide))
def R_law_roll : Cell → List PV → PV → Cell → Prop := fun c xs y c' => ∃ (u : Cup) (m : Int), c = cupC u ∧ xs = [.int m] ∧ 0 < m ∧ m < 1073741824 ∧ y = .int (rollF u m).1 ∧ c' = cupC (rollF u m).2
theorem ok__law_roll (T : Txt K mg a d) : FnOk P w K mg base CX0 1 (a 26) (d 26) ["cup", "many"] (spOfC R_law_roll) := by
  refine ok_cell T._law_roll.F sc__law_roll (fun c xs y c' h => by obtain ⟨u, m, _, rfl, _⟩ := h; rfl) (by decide) (fun cdv A outer s H E hr c xs y c' h => ?_)
  obtain ⟨u, m, rfl, rfl, hm0, hm, rfl, rfl⟩ := h
  refine ⟨_, (pss_cons (ps_if (pt_cmpR op_gt (pe_ix ix_list (pv 0) pe_int (fun _ _ => rfl)) pe_int (nomark _)) (pss_cons (ps_set (i := 2) sc__law_roll.nd rfl (by first | exact Or.inl rfl | exact Or.inr rfl) (pe_op op_modN (pe_callTy call_int1 (by rfl) T.n_int (by decide +kernel) (pa_cons (pe_ix ix_list (pv 0) pe_int (fun _ _ => rfl)) pa_nil)) (pv 1)))
      (pss_cons (ps_asg (pe_op op_fdivN (pe_ix ix_list (pv 0) pe_int (fun _ _ => rfl)) (pv 1)) (pg_sub (pv 0) pe_int set_list))
      (pss_one (ps_ret (pv 2))))) pss_nil)
      (pss_cons (ps_asg (pe_op op_modN (pe_callTy call_int1 (by rfl) T.n_int (by decide +kernel) (pa_cons (pe_op op_add (pe_op op_mul (pe_ix ix_list (pv 0) pe_int (fun _ _ => rfl)) pe_int) pe_int) pa_nil)) pe_int) (pg_sub (pv 0) pe_int set_list))
      (pss_one (ps_ret (pe_op op_modN (pe_callTy call_int1 (by rfl) T.n_int (by decide +kernel) (pa_cons (pe_op op_fdivN (pe_ix ix_list (pv 0) pe_int (fun _ _ => rfl)) pe_int) pa_nil)) (pv 1)))))), ?_⟩
  show Exec E _ [some (.mu false (.lst [.int u.1, .int u.2])), some (.val (.int m)), none] _
  refine ex_guard (b := decide (0 < u.1)) (τ1 := [some (.mu false (.lst [.int u.1, .int u.2])), some (.val (.int m)), none]) ?_ (fun z M => ?_) (fun z => ?_)
  · exact eb_test (ev_op (ev_ixM rfl ev_int rfl) ev_int r_gt)
  · have hF : rollF u m = (u.1.fmod m, (u.1.fdiv m, u.2)) := if_pos (of_decide_eq_true z)
    refine ex_seq1 (ex_set (x := .int (u.1.fmod m)) (ev_op (ev_cb (ea_cons (ev_ixM rfl ev_int rfl) ea_nil) c_intI) (ev_var rfl) (r_modN (by omega))) rfl) ?_
    refine ex_seq1 (ex_setM (xs := []) (y := .int (u.1.fdiv m)) (j := 0) (ev_op (ev_ixM rfl ev_int rfl) (ev_var rfl) (r_fdivN ⟨by omega, by omega⟩)) rfl ev_int rfl rfl) ?_
    refine ex_ret (ev_var rfl) ⟨by rw [hF], 0, ?_⟩
    rw [hF]
    rfl
  · have hF : rollF u m = ((((u.2 * 31253 + 70123).fmod 1048576).fdiv 179).fmod m, (u.1, (u.2 * 31253 + 70123).fmod 1048576)) := if_neg (of_decide_eq_false z)
    refine ex_seq1 (ex_setM (xs := []) (y := .int ((u.2 * 31253 + 70123).fmod 1048576)) (j := 1) (ev_op (ev_cb (ea_cons (ev_op (ev_op (ev_ixM rfl ev_int rfl) ev_int (r_mul (.inr ⟨by decide, by decide⟩))) ev_int r_add) ea_nil) c_intI) ev_int (r_modN (by decide))) rfl ev_int rfl rfl) ?_
    refine ex_ret (ev_op (ev_cb (ea_cons (ev_op (ev_ixM rfl ev_int rfl) ev_int (r_fdivN ⟨by decide, by decide⟩)) ea_nil) c_intI) (ev_var rfl) (r_modN (by omega))) ⟨by rw [hF], 0, ?_⟩
    rw [hF]
    rfl
def R_law_some : Cell → List PV → PV → Cell → Prop := fun c xs y c' => ∃ (u : Cup) (l : List PV), c = cupC u ∧ xs = [.lst l] ∧ 0 < l.length ∧ l.length ≤ 100000 ∧ y = (someF u l).1 ∧ c' = cupC (someF u l).2
theorem ok__law_some (T : Txt K mg a d) : FnOk P w K mg base CX0 2 (a 27) (d 27) ["cup", "things"] (spOfC R_law_some) := by
  refine ok_cell T._law_some.F sc__law_some (fun c xs y c' h => by obtain ⟨u, m, _, rfl, _⟩ := h; rfl) (by decide) (fun cdv A outer s H E hr c xs y c' h => ?_)
  obtain ⟨u, l, rfl, rfl, h0, hl, rfl, rfl⟩ := h
  refine ⟨_, (pss_one (ps_ret (pe_ix ix_list (pv 1) (pe_call (ok__law_roll T) (hr.mono (by first | decide | omega)) (by rfl) T._law_roll.g T._law_roll.F.kp T._law_roll.b .nil pass0 (pa_cons (pv 0) (pa_cons (pe_callB call_len (by rfl) T.n_len (by decide +kernel) (pa_cons (pv 1) pa_nil)) pa_nil))) (fun _ _ => rfl)))), ?_⟩
  show Exec E _ [some (.mu false (.lst [.int u.1, .int u.2])), some (.val (.lst l))] _
  refine ex_ret (ev_op (ev_var rfl) (ev_callC rfl (ea_cons (ev_cb (ea_cons (ev_var rfl) ea_nil) c_lenL) ea_nil) rfl (spC ⟨u, l.length, rfl, rfl, by omega, by omega, rfl, rfl⟩)) (r_ixL (someF_at u h0))) ⟨rfl, 0, rfl⟩
def R_law_great : List PV → PV → Prop := fun xs y => xs = [] ∧ y = .int MOSTv
theorem ok__law_great (T : Txt K mg a d) : FnOk P w K mg base CX0 1 (a 31) (d 31) [] (spOf R_law_great) := by
  refine ok_pure T._law_great.F sc__law_great (fun xs y h => by obtain ⟨rfl, _⟩ := h; rfl) (by decide) (fun cdv A outer s H E hr xs y h => ?_)
  obtain ⟨rfl, rfl⟩ := h
  refine ⟨_, (pss_one (ps_ret (pe_op op_mulW (pe_op op_mulW (pe_op op_mulW (pe_op op_pow pe_int pe_int) (pe_op op_pow pe_int pe_int)) (pe_op op_pow pe_int pe_int)) (pe_op op_pow pe_int pe_int)))), ?_⟩
  show Exec E _ [] _
  have p : ∀ {τ : TEnv}, EvR (tOp (rI CPow fun i j => .int (i ^ j.toNat)) (tC (.int 10)) (tC (.int 50))) τ (.int (10 ^ 50)) τ := fun {τ} => ev_op ev_int ev_int (r_pow ⟨by decide, by decide, by decide⟩)
  refine ex_ret (x := .int (10 ^ 50 * 10 ^ 50 * 10 ^ 50 * 10 ^ 50)) (ev_op (ev_op (ev_op p p (r_mulW (by unfold CMulW; decide +kernel))) p (r_mulW (by unfold CMulW; decide +kernel))) p (r_mulW (by unfold CMulW; decide +kernel))) ?_
  show PV.int _ = PV.int MOSTv
  congr 1
end
end K10
end
section
set_option maxRecDepth 100000
set_option maxHeartbeats 200000
namespace K10
open PySem PySem.Spec PyProof.Rows L2 TLy TL NumText
/-! steps, one by one -/
local macro_rules | `(tactic| walk_at "ev") => `(tactic| first
  | exact ev_var rfl
  | exact ev_int
  | exact ev_str
  | exact ev_bl
  | exact ev_non
  | exact ev_ty
  | exact ea_nil
  | exact eo_none
  | exact r_add
  | exact r_sub
  | exact r_lt
  | exact r_le
  | exact r_gt
  | exact r_ge
  | exact r_eqI
  | exact r_neI
  | exact r_eqS
  | exact r_neS
  | exact r_leS
  | exact r_inSign
  | exact r_isN
  | exact r_notN
  | exact u_neg
  | exact c_intI
  | exact c_abs
  | exact c_ord
  | exact c_lenT
  | exact c_lenL
  | exact c_all
  | exact Nat.le_of_ble_eq_true rfl
  | exact c_tupL
  | exact c_lstL
  | exact c_lstT
  | exact u_slT
  | exact u_slL
  | exact tg_name
  | exact tgs_nil
  | ((with_reducible refine' ev_lenM ?_) <;> rfl)
  | ((with_reducible refine' ev_op ?_ ?_ ?_) <;> try walk_at "ev")
  | ((with_reducible refine' ev_un ?_ ?_) <;> try walk_at "ev")
  | ((with_reducible refine' ea_cons ?_ ?_) <;> try walk_at "ev")
  | ((with_reducible refine' eo_some ?_) <;> try walk_at "ev")
  | ((with_reducible refine' ev_cb ?_ ?_) <;> try walk_at "ev")
  | ((with_reducible refine' ev_sl ?_ ?_ ?_ ?_) <;> try walk_at "ev")
  | ((with_reducible refine' ev_chain ?_ ?_ ?_ ?_ ?_) <;> try walk_at "ev")
  | ((with_reducible refine' eb_test ?_) <;> try walk_at "ev")
  | ((with_reducible refine' eb_B ?_) <;> try walk_at "ev")
  | ((with_reducible refine' eb_not ?_) <;> try walk_at "ev")
  | ((with_reducible refine' eb_andP ?_ ?_) <;> try walk_at "ev")
  | ((with_reducible refine' eb_orP ?_ ?_) <;> try walk_at "ev")
  | ((with_reducible refine' ev_andP ?_ ?_) <;> try walk_at "ev")
  | ((with_reducible refine' ev_orP ?_ ?_) <;> try walk_at "ev")
  | ((with_reducible refine' ev_notP ?_) <;> try walk_at "ev")
  | ((with_reducible refine' ev_tup ?_ ?_) <;> try walk_at "ev")
  | ((with_reducible refine' ev_lst ?_ ?_) <;> try walk_at "ev")
  | ((with_reducible refine' ev_call ?_ ?_) <;> first | assumption | walk_at "ev" | skip)
  | ((with_reducible refine' tg_tup ?_ ?_) <;> try walk_at "ev")
  | ((with_reducible refine' tgs_cons ?_ ?_) <;> try walk_at "ev")
  | (refine' r_mul ?_)
  | (refine' r_modN ?_)
  | (refine' r_fdivN ?_)
  | (refine' r_pow ?_)
  | (refine' r_addS ?_)
  | (refine' r_catT ?_)
  | (refine' r_catL ?_)
  | (refine' r_ixT ?_)
  | (refine' r_ixL ?_)
  | (refine' r_ixS ?_ ?_ <;> first | exact len_sz (by omega) | exact at_get _ _ (by assumption) | skip)
  | (refine' u_slS ?_ <;> first | exact len_sz (by omega) | skip)
  | (refine' c_lenS ?_ <;> first | exact len_sz (by omega) | skip)
  | (refine' c_strI ?_)
  | (refine' c_intS ?_ ?_)
  | with_reducible exact isi_NB
  | with_reducible exact isi_NI
  | with_reducible exact isi_NS
  | with_reducible exact isi_NT
  | with_reducible exact isi_NL
  | with_reducible exact isi_BB
  | with_reducible exact isi_BI
  | with_reducible exact isi_BS
  | with_reducible exact isi_BT
  | with_reducible exact isi_BL
  | with_reducible exact isi_IB
  | with_reducible exact isi_II
  | with_reducible exact isi_IS
  | with_reducible exact isi_IT
  | with_reducible exact isi_IL
  | with_reducible exact isi_SB
  | with_reducible exact isi_SI
  | with_reducible exact isi_SS
  | with_reducible exact isi_ST
  | with_reducible exact isi_SL
  | with_reducible exact isi_TB
  | with_reducible exact isi_TI
  | with_reducible exact isi_TS
  | with_reducible exact isi_TT
  | with_reducible exact isi_TL
  | with_reducible exact isi_LB
  | with_reducible exact isi_LI
  | with_reducible exact isi_LS
  | with_reducible exact isi_LT
  | with_reducible exact isi_LL
  | (refine' r_eqD ?_ ?_ ?_ ?_)
  | (refine' r_neD ?_ ?_ ?_ ?_)
  | (intro _h; walk_at "ev"))

/-! ### what the cup picks -/
def someG {α : Type} (u : Cup) (l : List α) (e : α) : α × Cup := (l.getD (rollF u l.length).1.toNat e, (rollF u l.length).2)
theorem someG_mem {α : Type} (u : Cup) {l : List α} (e : α) (h : 0 < l.length) : (someG u l e).1 ∈ l := by
  obtain ⟨h1, h2⟩ := rollF_lt u (m := l.length) (by omega)
  show l.getD (rollF u l.length).1.toNat e ∈ l
  have hn : (rollF u l.length).1.toNat < l.length := by omega
  rw [List.getD_eq_getElem?_getD, List.getElem?_eq_getElem hn]
  exact List.getElem_mem hn
theorem someF_map {α : Type} (f : α → PV) (u : Cup) (l : List α) (e : α) (h : 0 < l.length) : someF u (l.map f) = (f (someG u l e).1, (someG u l e).2) := by
  obtain ⟨h1, h2⟩ := rollF_lt u (m := l.length) (by omega)
  have hn : (rollF u l.length).1.toNat < l.length := by omega
  unfold someF someG
  rw [List.length_map, List.getD_eq_getElem?_getD, List.getElem?_map, List.getElem?_eq_getElem hn, List.getD_eq_getElem?_getD, List.getElem?_eq_getElem hn]
  rfl
abbrev leaf0 : List PV := [.non, .int 0, .tup [], .str "", .str "<", .str ">,", .str "=1:a", .str "?", .str "-", .str "\n", .str "0"]
abbrev leaf1 : List PV := [.int 1, .int (-1), .int 10, .int (-20), .int 907, .int (MOSTv - 1), .int (1 - MOSTv)]
def cnt0 : List Nat := [0, 1, 2, 5, 12]
def cnt1 : List Nat := [0, 1, 2, 4, 19]
def sgns : List Nat := [60, 62, 44, 61, 58, 63, 45, 48, 49, 97, 32, 126]
def sgnAt (u : Cup) : Nat × Cup := someG u sgns 60
def cupN (u : Cup) : Nat → Cup
  | 0 => u
  | n + 1 => (sgnAt (cupN u n)).2
def leafF (u : Cup) : PV × Cup :=
  let r := rollF u 4
  if r.1 = 0 then someF r.2 leaf0 else if r.1 = 1 then someF r.2 leaf1 else
    let k := someG r.2 cnt0 0
    (.str (S ((List.range k.1).map fun i => (sgnAt (cupN k.2 i)).1)), cupN k.2 k.1)
def stepT (s : PV × Cup) : PV × Cup :=
  let p := leafF s.2
  let q := leafF p.2
  let r := leafF q.2
  someF r.2 [.tup [s.1], .tup [s.1, p.1], .tup [q.1, s.1, r.1]]
def thN (s : PV × Cup) : Nat → PV × Cup
  | 0 => s
  | n + 1 => stepT (thN s n)
def thingF (u : Cup) : PV × Cup :=
  let l := leafF u
  let k := someG l.2 cnt1 0
  thN (l.1, k.2) k.1
def marks : List (List Nat) := [[60], [62], [60, 62], [44], [63], [61], [58], [45], [48], [49], [48, 48], [45, 48], [61, 48, 58], [61, 49, 58], [61, 48, 49, 58, 97], [97], [32], [], [10]]
def bentF (u : Cup) (t : List Nat) : List Nat × Cup :=
  let p := rollF u (t.length + 1)
  let q := rollF p.2 4
  let m := someG q.2 marks []
  let i := p.1.toNat
  (if q.1 = 0 then t.take i ++ m.1 ++ t.drop i else if q.1 < 3 then t.take i ++ m.1 ++ t.drop (i + 1) else t.take i, m.2)
section
variable {P : Program} {w : World} {K : PySem.W.Frag} {mg : Str → Option Value} {base : Heap} {a : Nat → Addr} {d : Nat → FuncData}
theorem join_nil (l : List Nat) : Txt.join "" (l.map fun c => S [c]) = S l := by
  have e := TL.tl_join "" (l.map fun c => S [c])
  rw [TL.join_eq]
  refine TL.ext_tl (e.trans ?_)
  rw [List.map_map]
  have h : ∀ l : List Nat, TL.joinL [] (l.map (TL.tl ∘ fun c => S [c])) = l := fun l => by
    induction l with
    | nil => rfl
    | cons c l ih =>
      cases l with
      | nil => rfl
      | cons c2 l =>
        show [c] ++ ([] ++ TL.joinL [] ((c2 :: l).map (TL.tl ∘ fun c => S [c]))) = _
        rw [ih]
        rfl
  exact h l
theorem call_some {E : XK} {τ τ1 : TEnv} {o0 o : Bool} {c0 : Cell} {u : Cup} {l : List PV} {ta : TA} (h0 : τ[0]? = some (some (.mu o0 c0))) (h : EvA ta τ l τ1) (h1 : τ1[0]? = some (some (.mu o (cupC u)))) (hl : 0 < l.length) (hz : l.length ≤ 100000) :
    EvR (tCall (spOfC R_law_some) [] E (tCons (tVar 0) (tCons (tLst ta) tNil))) τ (someF u l).1 (τ1.set 0 (some (.mu o (cupC (someF u l).2)))) :=
  ev_callC h0 (ea_cons (ev_new (en_lst h hz)) ea_nil) h1 (spC ⟨u, l, rfl, rfl, hl, hz, rfl, rfl⟩)
theorem call_roll {E : XK} {τ τ1 : TEnv} {o0 o : Bool} {c0 : Cell} {u : Cup} {m : Int} {te : TE} (h0 : τ[0]? = some (some (.mu o0 c0))) (h : EvR te τ (.int m) τ1) (h1 : τ1[0]? = some (some (.mu o (cupC u)))) (hl : 0 < m) (hz : m < 1073741824) :
    EvR (tCall (spOfC R_law_roll) [] E (tCons (tVar 0) (tCons te tNil))) τ (.int (rollF u m).1) (τ1.set 0 (some (.mu o (cupC (rollF u m).2)))) :=
  ev_callC h0 (ea_cons h ea_nil) h1 (spC ⟨u, m, rfl, rfl, hl, hz, rfl, rfl⟩)
theorem atoms5 {τ : TEnv} {a b c d e : Int} : EvA (tCons (tC (.int a)) (tCons (tC (.int b)) (tCons (tC (.int c)) (tCons (tC (.int d)) (tCons (tC (.int e)) tNil))))) τ [.int a, .int b, .int c, .int d, .int e] τ :=
  ea_cons ev_int (ea_cons ev_int (ea_cons ev_int (ea_cons ev_int (ea_cons ev_int ea_nil))))
/-- texts one after the other -/
def tStrs : List Str → TA
  | [] => tNil
  | z :: l => tCons (tC (.str z)) (tStrs l)
theorem ea_strs {τ : TEnv} : ∀ l : List Str, EvA (tStrs l) τ (l.map PV.str) τ
  | [] => ea_nil
  | z :: l => ea_cons ev_str (ea_strs l)
def R_leaf : Cell → List PV → PV → Cell → Prop := fun c xs y c' => ∃ u : Cup, c = cupC u ∧ xs = [] ∧ y = (leafF u).1 ∧ c' = cupC (leafF u).2
theorem ok__law_leaf (T : Txt K mg a d) : FnOk P w K mg base CX0 3 (a 36) (d 36) ["cup"] (spOfC R_leaf) := by
  refine ok_cell T._law_leaf.F sc__law_leaf (fun c xs y c' h => by obtain ⟨u, _, rfl, _⟩ := h; rfl) (by decide) (fun cdv A outer s H E hr c xs y c' h => ?_)
  obtain ⟨u, rfl, rfl, rfl, rfl⟩ := h
  refine ⟨_, (pss_cons (ps_set (i := 1) sc__law_leaf.nd rfl (by first | exact Or.inl rfl | exact Or.inr rfl) (pe_call (ok__law_roll T) (hr.mono (by first | decide | omega)) (by rfl) T._law_roll.g T._law_roll.F.kp T._law_roll.b .nil pass0 (pa_cons (pv 0) (pa_cons pe_int pa_nil))))
      (pss_cons (ps_if (pt_cmpR op_eq (pv 1) pe_int (nomark _)) (pss_one (ps_ret (pe_call (ok__law_some T) (hr.mono (by first | decide | omega)) (by rfl) T._law_some.g T._law_some.F.kp T._law_some.b .nil pass0 (pa_cons (pv 0) (pa_cons (pe_lst (pa_cons pe_non (pa_cons pe_int (pa_cons (pe_tup pa_nil) (pa_cons pe_str (pa_cons pe_str (pa_cons pe_str (pa_cons pe_str (pa_cons pe_str (pa_cons pe_str (pa_cons pe_str (pa_cons pe_str pa_nil)))))))))))) pa_nil))))) pss_nil)
      (pss_cons (ps_if (pt_cmpR op_eq (pv 1) pe_int (nomark _)) (pss_one (ps_ret (pe_call (ok__law_some T) (hr.mono (by first | decide | omega)) (by rfl) T._law_some.g T._law_some.F.kp T._law_some.b .nil pass0 (pa_cons (pv 0) (pa_cons (pe_lst (pa_cons pe_int (pa_cons (pe_un un_neg pe_int) (pa_cons pe_int (pa_cons (pe_un un_neg pe_int) (pa_cons pe_int (pa_cons (pe_op op_sub (pe_call0 (ok__law_great T) (hr.mono (by first | decide | omega)) (by rfl) T._law_great.g T._law_great.F.kp T._law_great.b .nil pass0) pe_int) (pa_cons (pe_op op_sub pe_int (pe_call0 (ok__law_great T) (hr.mono (by first | decide | omega)) (by rfl) T._law_great.g T._law_great.F.kp T._law_great.b .nil pass0)) pa_nil)))))))) pa_nil))))) pss_nil)
      (pss_one (ps_ret (pe_bm PySem.F.plainAttrs_str PySem.F.slot_str_join PySem.F.type_str_join mt_join pe_str (pa_cons (pe_lc (own := [("spot", 2)]) (g := gName 2) (by rfl) sc__law_leaf.nd (pi_range1 (by rfl) T.n_range (pa_cons (pe_call (ok__law_some T) (hr.mono (by first | decide | omega)) (by rfl) T._law_some.g T._law_some.F.kp T._law_some.b .nil pass0 (pa_cons (pv 0) (pa_cons (pe_lst (pa_cons pe_int (pa_cons pe_int (pa_cons pe_int (pa_cons pe_int (pa_cons pe_int pa_nil)))))) pa_nil))) pa_nil)) (blkOk_by (own := [("spot", 2)]) (N := N__law_leaf) (sc := defScope s__law_leaf) (by decide +kernel)) (fun _ _ _ _ _ => (pg_name (i := 2) sc__law_leaf.nd rfl (by first | exact Or.inl rfl | exact Or.inr rfl))) (fun _ _ _ _ _ => pts_nil) (fun _ _ _ _ _ => (pe_call (ok__law_some T) (hr.mono (by first | decide | omega)) (by rfl) T._law_some.g T._law_some.F.kp T._law_some.b .nil pass0 (pa_cons (pv 0) (pa_cons (pe_lst (pa_cons pe_str (pa_cons pe_str (pa_cons pe_str (pa_cons pe_str (pa_cons pe_str (pa_cons pe_str (pa_cons pe_str (pa_cons pe_str (pa_cons pe_str (pa_cons pe_str (pa_cons pe_str (pa_cons pe_str pa_nil))))))))))))) pa_nil))))) pa_nil))))))), ?_⟩
  show Exec E _ [some (.mu false (cupC u)), none, none] _
  obtain ⟨r, hr⟩ : ∃ r, r = rollF u 4 := ⟨_, rfl⟩
  have hL : leafF u = if r.1 = 0 then someF r.2 leaf0 else if r.1 = 1 then someF r.2 leaf1 else (.str (S ((List.range (someG r.2 cnt0 0).1).map fun i => (sgnAt (cupN (someG r.2 cnt0 0).2 i)).1)), cupN (someG r.2 cnt0 0).2 (someG r.2 cnt0 0).1) := by
    unfold leafF
    simp only [← hr]
  refine ex_seq1 (ex_set (x := .int r.1) (τ1 := [some (.mu false (cupC r.2)), none, none]) (ev_callC rfl (ea_cons ev_int ea_nil) rfl (spC ⟨u, 4, rfl, rfl, by decide, by decide, by rw [hr], by rw [hr]⟩)) rfl) ?_
  show Exec E _ [some (.mu false (cupC r.2)), some (.val (.int r.1)), none] _
  refine ex_guard (b := decide (r.1 = 0)) (eb_test (ev_op (ev_var rfl) ev_int r_eqI)) (fun z M => ?_) (fun z => ?_)
  · rw [if_pos (of_decide_eq_true z)] at hL
    refine ex_ret (call_some (o := false) (u := r.2) (l := leaf0) (τ1 := [some (.mu false (cupC r.2)), some (.val (.int r.1)), none]) rfl (ea_cons ev_non (ea_cons ev_int (ea_cons (ev_tup ea_nil (by decide)) (ea_strs ["", "<", ">,", "=1:a", "?", "-", "\n", "0"])))) rfl (by decide) (by decide)) ⟨by rw [hL], 0, by rw [hL]; rfl⟩
  rw [if_neg (of_decide_eq_false z)] at hL
  refine ex_guard (b := decide (r.1 = 1)) (eb_test (ev_op (ev_var rfl) ev_int r_eqI)) (fun z M => ?_) (fun z => ?_)
  · rw [if_pos (of_decide_eq_true z)] at hL
    have hg : ∀ {τ : TEnv}, EvR (tCall (spOf R_law_great) [] E0 tNil) τ (.int MOSTv) τ := fun {τ} => ev_call ea_nil (spP ⟨rfl, rfl⟩)
    refine ex_ret (call_some (o := false) (u := r.2) (l := leaf1) (τ1 := [some (.mu false (cupC r.2)), some (.val (.int r.1)), none]) rfl (ea_cons ev_int (ea_cons (ev_un ev_int u_neg) (ea_cons ev_int (ea_cons (ev_un ev_int u_neg) (ea_cons ev_int (ea_cons (ev_op hg ev_int r_sub) (ea_cons (ev_op ev_int hg r_sub) ea_nil))))))) rfl (Nat.le_of_ble_eq_true rfl) (Nat.le_of_ble_eq_true rfl)) ⟨by rw [hL], 0, by rw [hL]; rfl⟩
  rw [if_neg (of_decide_eq_false z)] at hL
  obtain ⟨k, hk⟩ : ∃ k, k = someG r.2 cnt0 0 := ⟨_, rfl⟩
  rw [← hk] at hL
  have hk12 : k.1 ≤ 12 := by
    have : k.1 ∈ cnt0 := by rw [hk]; exact someG_mem _ _ (by decide)
    have : ∀ n ∈ cnt0, n ≤ 12 := by decide
    exact this _ (by assumption)
  refine ex_ret (x := .str (S ((List.range k.1).map fun i => (sgnAt (cupN k.2 i)).1))) (τ1 := [some (.mu false (cupC (cupN k.2 k.1))), some (.val (.int r.1)), none]) ?_ ⟨by rw [hL], 0, by rw [hL]; rfl⟩
  rw [← join_nil]
  refine ev_bm ev_str (fun G H e v r => tyV_str G H e v r) (ea_cons (ev_new (xs := (((List.range k.1).map fun i => (sgnAt (cupN k.2 i)).1).map fun c => S [c]).map PV.str) ?_) ea_nil) (m_join ?_)
  · have hcnt : EvR (tCall (spOfC R_law_some) [] E0 (tCons (tVar 0) (tCons (tLst (tCons (tC (.int 0)) (tCons (tC (.int 1)) (tCons (tC (.int 2)) (tCons (tC (.int 5)) (tCons (tC (.int 12)) tNil)))))) tNil))) [some (.mu false (cupC r.2)), some (.val (.int r.1)), none] (.int (k.1 : Nat)) [some (.mu false (cupC k.2)), some (.val (.int r.1)), none] := by
      have h := call_some (E := E0) (o := false) (u := r.2) (l := cnt0.map fun n : Nat => PV.int n) (τ := [some (.mu false (cupC r.2)), some (.val (.int r.1)), none]) (τ1 := [some (.mu false (cupC r.2)), some (.val (.int r.1)), none]) rfl atoms5 rfl (by decide) (by decide)
      rw [someF_map (fun n : Nat => PV.int n) _ _ 0 (by decide), ← hk] at h
      exact h
    have hsgn : ∀ (i : Nat) (x : PV), EvR (tCall (spOfC R_law_some) [] E0 (tCons (tVar 0) (tCons (tLst (tStrs ["<", ">", ",", "=", ":", "?", "-", "0", "1", "a", " ", "~"])) tNil))) [some (.mu false (cupC (cupN k.2 i))), some (.val (.int r.1)), some (.val x)] (.str (S [(sgnAt (cupN k.2 i)).1])) [some (.mu false (cupC (cupN k.2 (i + 1)))), some (.val (.int r.1)), some (.val x)] := fun i x => by
      have h := call_some (E := E0) (o := false) (u := cupN k.2 i) (l := sgns.map fun c : Nat => PV.str (S [c])) (τ := [some (.mu false (cupC (cupN k.2 i))), some (.val (.int r.1)), some (.val x)]) (τ1 := [some (.mu false (cupC (cupN k.2 i))), some (.val (.int r.1)), some (.val x)]) rfl (ea_strs ["<", ">", ",", "=", ":", "?", "-", "0", "1", "a", " ", "~"]) rfl (by decide) (by decide)
      rw [someF_map (fun c : Nat => PV.str (S [c])) _ _ 60 (by decide)] at h
      exact h
    have key := en_lc (te := tCall (spOfC R_law_some) [] E0 (tCons (tVar 0) (tCons (tLst (tStrs ["<", ">", ",", "=", ":", "?", "-", "0", "1", "a", " ", "~"])) tNil))) (tt := tYes) (g := gName 2) (vs := [2])
      (fun i => [some (.mu false (cupC (cupN k.2 i))), some (.val (.int r.1)), none]) (fun i => some (.str (S [(sgnAt (cupN k.2 i)).1])))
      (it_range1 (n := k.1) (τ := [some (.mu false (cupC r.2)), some (.val (.int r.1)), none]) (τ1 := [some (.mu false (cupC k.2)), some (.val (.int r.1)), none]) (ea_cons hcnt ea_nil) (by omega) (by omega))
      rfl (fun i j => Shp.set (j := 0) (o := false) (c := cupC (cupN k.2 i)) (c' := cupC (cupN k.2 j)) rfl) (fun j hj o c z => by
        have : j = 2 := by simpa using hj
        subst this
        cases z) (by unfold rangeP; rw [List.length_map, List.length_range]; omega) (fun i x hx => by
      refine ⟨[some (.mu false (cupC (cupN k.2 i))), some (.val (.int r.1)), some (.val x)], [some (.mu false (cupC (cupN k.2 (i + 1)))), some (.val (.int r.1)), some (.val x)], tw_name (τ := [some (.mu false (cupC (cupN k.2 i))), some (.val (.int r.1)), none]) (i := 2) (by simp), ⟨_, eb_yes, ?_⟩, fun j hj => ?_⟩
      · exact hsgn i x
      · have h2 : j ≠ 2 := fun z => hj (by simp [z])
        match j, h2 with
        | 0, _ => rfl
        | 1, _ => rfl
        | j + 3, _ => rfl)
    have e : (rangeP 0 (k.1 : Int).toNat).length = k.1 := by
      unfold rangeP
      rw [List.length_map, List.length_range, Int.toNat_natCast]
    rw [e, List.filterMap_eq_map'] at key
    rw [List.map_map, List.map_map]
    exact key
  · rw [List.map_map, List.length_map, List.length_map, List.length_range]
    show _ + k.1 * 0 ≤ _
    have : ∀ l : List Nat, (l.map ((fun x : Str => x.length) ∘ fun c => S [c])).sum = l.length := fun l => by
      induction l with
      | nil => rfl
      | cons c l ih =>
        rw [List.map_cons, List.sum_cons, ih, List.length_cons]
        show 1 + _ = _
        omega
    rw [this, List.length_map, List.length_range]
    omega
end
end K10
end
section
set_option maxRecDepth 100000
set_option maxHeartbeats 4000000
namespace K10
open PySem PySem.Spec PyProof.Rows L2 TLy TL NumText
/-! steps, one by one -/
local macro_rules | `(tactic| walk_at "ev") => `(tactic| first
  | exact ev_var rfl
  | exact ev_int
  | exact ev_str
  | exact ev_bl
  | exact ev_non
  | exact ev_ty
  | exact ea_nil
  | exact eo_none
  | exact r_add
  | exact r_sub
  | exact r_lt
  | exact r_le
  | exact r_gt
  | exact r_ge
  | exact r_eqI
  | exact r_neI
  | exact r_eqS
  | exact r_neS
  | exact r_leS
  | exact r_inSign
  | exact r_isN
  | exact r_notN
  | exact u_neg
  | exact c_intI
  | exact c_abs
  | exact c_ord
  | exact c_lenT
  | exact c_lenL
  | exact c_all
  | exact Nat.le_of_ble_eq_true rfl
  | exact c_tupL
  | exact c_lstL
  | exact c_lstT
  | exact u_slT
  | exact u_slL
  | exact tg_name
  | exact tgs_nil
  | ((with_reducible refine' ev_lenM ?_) <;> rfl)
  | ((with_reducible refine' ev_op ?_ ?_ ?_) <;> try walk_at "ev")
  | ((with_reducible refine' ev_un ?_ ?_) <;> try walk_at "ev")
  | ((with_reducible refine' ea_cons ?_ ?_) <;> try walk_at "ev")
  | ((with_reducible refine' eo_some ?_) <;> try walk_at "ev")
  | ((with_reducible refine' ev_cb ?_ ?_) <;> try walk_at "ev")
  | ((with_reducible refine' ev_sl ?_ ?_ ?_ ?_) <;> try walk_at "ev")
  | ((with_reducible refine' ev_chain ?_ ?_ ?_ ?_ ?_) <;> try walk_at "ev")
  | ((with_reducible refine' eb_test ?_) <;> try walk_at "ev")
  | ((with_reducible refine' eb_B ?_) <;> try walk_at "ev")
  | ((with_reducible refine' eb_not ?_) <;> try walk_at "ev")
  | ((with_reducible refine' eb_andP ?_ ?_) <;> try walk_at "ev")
  | ((with_reducible refine' eb_orP ?_ ?_) <;> try walk_at "ev")
  | ((with_reducible refine' ev_andP ?_ ?_) <;> try walk_at "ev")
  | ((with_reducible refine' ev_orP ?_ ?_) <;> try walk_at "ev")
  | ((with_reducible refine' ev_notP ?_) <;> try walk_at "ev")
  | ((with_reducible refine' ev_tup ?_ ?_) <;> try walk_at "ev")
  | ((with_reducible refine' ev_lst ?_ ?_) <;> try walk_at "ev")
  | ((with_reducible refine' ev_call ?_ ?_) <;> first | assumption | walk_at "ev" | skip)
  | ((with_reducible refine' tg_tup ?_ ?_) <;> try walk_at "ev")
  | ((with_reducible refine' tgs_cons ?_ ?_) <;> try walk_at "ev")
  | (refine' r_mul ?_)
  | (refine' r_modN ?_)
  | (refine' r_fdivN ?_)
  | (refine' r_pow ?_)
  | (refine' r_addS ?_)
  | (refine' r_catT ?_)
  | (refine' r_catL ?_)
  | (refine' r_ixT ?_)
  | (refine' r_ixL ?_)
  | (refine' r_ixS ?_ ?_ <;> first | exact len_sz (by omega) | exact at_get _ _ (by assumption) | skip)
  | (refine' u_slS ?_ <;> first | exact len_sz (by omega) | skip)
  | (refine' c_lenS ?_ <;> first | exact len_sz (by omega) | skip)
  | (refine' c_strI ?_)
  | (refine' c_intS ?_ ?_)
  | with_reducible exact isi_NB
  | with_reducible exact isi_NI
  | with_reducible exact isi_NS
  | with_reducible exact isi_NT
  | with_reducible exact isi_NL
  | with_reducible exact isi_BB
  | with_reducible exact isi_BI
  | with_reducible exact isi_BS
  | with_reducible exact isi_BT
  | with_reducible exact isi_BL
  | with_reducible exact isi_IB
  | with_reducible exact isi_II
  | with_reducible exact isi_IS
  | with_reducible exact isi_IT
  | with_reducible exact isi_IL
  | with_reducible exact isi_SB
  | with_reducible exact isi_SI
  | with_reducible exact isi_SS
  | with_reducible exact isi_ST
  | with_reducible exact isi_SL
  | with_reducible exact isi_TB
  | with_reducible exact isi_TI
  | with_reducible exact isi_TS
  | with_reducible exact isi_TT
  | with_reducible exact isi_TL
  | with_reducible exact isi_LB
  | with_reducible exact isi_LI
  | with_reducible exact isi_LS
  | with_reducible exact isi_LT
  | with_reducible exact isi_LL
  | (refine' r_eqD ?_ ?_ ?_ ?_)
  | (refine' r_neD ?_ ?_ ?_ ?_)
  | (intro _h; walk_at "ev"))

mutual
/-- what is compared -/
def isLk : Nat → PV → Bool
  | _, .non => true
  | _, .bl _ => true
  | _, .int _ => true
  | _, .str s => PyData.strOk s
  | _, .ty _ => false
  | 0, .tup _ => false
  | 0, .lst _ => false
  | n + 1, .tup l => decide (l.length ≤ 100000) && isLks n l
  | n + 1, .lst l => decide (l.length ≤ 100000) && isLks n l
def isLks : Nat → List PV → Bool
  | _, [] => true
  | n, x :: l => isLk n x && isLks n l
end
theorem isLks_mem {n : Nat} : ∀ {l : List PV}, isLks n l = true → ∀ x ∈ l, isLk n x = true
  | [], _, _, h => by cases h
  | a :: l, e, x, h => by
    have e : (isLk n a && isLks n l) = true := e
    rw [Bool.and_eq_true] at e
    rcases List.mem_cons.mp h with rfl | h
    · exact e.1
    · exact isLks_mem e.2 x h
theorem isLks_of {n : Nat} : ∀ {l : List PV}, (∀ x ∈ l, isLk n x = true) → isLks n l = true
  | [], _ => rfl
  | a :: l, h => by
    show (isLk n a && isLks n l) = true
    rw [h a List.mem_cons_self, isLks_of fun x hx => h x (List.mem_cons_of_mem _ hx)]
    rfl
section
variable {P : Program} {w : World} {K : PySem.W.Frag} {mg : Str → Option Value} {base : Heap} {a : Nat → Addr} {d : Nat → FuncData}
def R_law_like (n : Nat) : List PV → PV → Prop := fun xs y => ∃ x : PV, xs = [x, x] ∧ isLk n x = true ∧ y = .bl true
def R_prevL : Nat → List PV → PV → Prop
  | 0 => fun _ _ => False
  | n + 1 => R_law_like n
theorem zip_self {α : Type} : ∀ {l : List α} {p : α × α}, p ∈ l.zip l → p.1 = p.2 ∧ p.1 ∈ l
  | a :: l, p, h => by
    rw [List.zip_cons_cons] at h
    rcases List.mem_cons.mp h with rfl | h
    · exact ⟨rfl, List.mem_cons_self⟩
    · exact ⟨(zip_self h).1, List.mem_cons_of_mem _ (zip_self h).2⟩
theorem ok__law_like1 (T : Txt K mg a d) (n : Nat) (ih__law_like : FnOk P w K mg base CX0 (1 + n) (a 29) (d 29) ["one", "other"] (spOf (R_prevL n))) :
    FnOk P w K mg base CX0 (2 + n) (a 29) (d 29) ["one", "other"] (spOf (R_law_like n)) := by
  rw [show 2 + n = (1 + n) + 1 by omega]
  refine ok_pure T._law_like.F sc__law_like (fun xs y h => by obtain ⟨x, rfl, _⟩ := h; rfl) (by decide) (fun cdv A outer s H E hr xs y h => ?_)
  obtain ⟨x, rfl, hx, rfl⟩ := h
  have hty : ∀ m, x ≠ .ty m := fun m z => by subst z; cases n <;> cases hx
  refine ⟨_, (pss_cons (ps_set (i := 2) sc__law_like.nd rfl (by first | exact Or.inl rfl | exact Or.inr rfl) (pe_call (ok__law_sort T) (hr.mono (by first | decide | omega)) (by rfl) T._law_sort.g T._law_sort.F.kp T._law_sort.b .nil pass0 (pa_cons (pv 1) pa_nil)))
      (pss_cons (ps_if (PW.pt (pw_or (pt_cmpR op_ne (pe_call (ok__law_sort T) (hr.mono (by first | decide | omega)) (by rfl) T._law_sort.g T._law_sort.F.kp T._law_sort.b .nil pass0 (pa_cons (pv 0) pa_nil)) (pv 2) (nomark _)) (pw_or1 (pt_cmpR op_eq (pv 2) pe_int (nomark _))))) (pss_one (ps_ret pe_bl)) pss_nil)
      (pss_cons (ps_if (pt_cmpR op_in_seq (pv 2) (pe_tup (pa_cons pe_int (pa_cons pe_int pa_nil))) (by rfl)) (pss_one (ps_ret (pe_and (pe_cmpR op_eq (pe_callB call_len (by rfl) T.n_len (by decide +kernel) (pa_cons (pv 0) pa_nil)) (pe_callB call_len (by rfl) T.n_len (by decide +kernel) (pa_cons (pv 1) pa_nil)) (nomark _)) (pe_one (pe_cmpR (op_eqD hr.units) (pe_lc (own := [("first", 3), ("second", 4)]) (g := gTup K 2 (gCons (gName 3) (gCons (gName 4) gNil))) (by rfl) sc__law_like.nd (RZ.pi_zipA (by rfl) T.n_zip (pa_cons (pv 0) (pa_cons (pv 1) pa_nil))) (blkOk_by (own := [("first", 3), ("second", 4)]) (N := N__law_like) (sc := defScope s__law_like) (by decide +kernel)) (fun _ _ _ _ _ => (pg_tup (by rfl) (pgs_cons (pg_name (i := 3) sc__law_like.nd rfl (by first | exact Or.inl rfl | exact Or.inr rfl)) (pgs_cons (pg_name (i := 4) sc__law_like.nd rfl (by first | exact Or.inl rfl | exact Or.inr rfl)) pgs_nil)))) (fun _ _ _ _ _ => (pts_one (pt_not (pt_val (pe_call ih__law_like (hr.mono (by first | decide | omega)) (by rfl) T._law_like.g T._law_like.F.kp T._law_like.b .nil pass0 (pa_cons (pv 3) (pa_cons (pv 4) pa_nil))))))) (fun _ _ _ _ _ => pe_int)) (pe_lst pa_nil) (nomark _)))))) pss_nil)
      (pss_one (ps_ret (pe_cmpR (op_eqD hr.units) (pv 0) (pv 1) (nomark _))))))), ?_⟩
  show Exec E _ [some (.val x), some (.val x), none, none, none] _
  refine ex_seq1 (ex_set (x := .int (sortP x)) (τ1 := [some (.val x), some (.val x), none, none, none]) (ev_call (ea_cons (ev_var rfl) ea_nil) (spP ⟨x, rfl, hty, rfl⟩)) rfl) ?_
  show Exec E _ [some (.val x), some (.val x), some (.val (.int (sortP x))), none, none] _
  refine ex_gFb (!decide (sortP x = sortP x) || decide (sortP x = 6)) (eb_orP (eb_test (ev_op (ev_call (ea_cons (ev_var rfl) ea_nil) (spP ⟨x, rfl, hty, rfl⟩)) (ev_var rfl) r_neI)) fun _ => eb_test (ev_op (ev_var rfl) ev_int r_eqI)) ?_ ?_
  · cases x <;> first | exact absurd rfl (hty _) | rfl
  have leaf : flat x = true → atom x = true → (inV (.int (sortP x)) [.int 4, .int 5]) = false → ∀ {t : TS}, Exec E (tSeq (tIfS (tTest (tOp (rIn K false) (tVar 2) (tTup (tCons (tC (.int 4)) (tCons (tC (.int 5)) tNil))))) t tNext) (tRet (tOp (rEqD K) (tVar 0) (tVar 1)))) [some (.val x), some (.val x), some (.val (.int (sortP x))), none, none] { nx := fun _ => PV.bl true = .non, rt := fun z _ => z = .bl true } := fun hf ha hi t => by
    refine ex_gFb _ (eb_test (ev_op (ev_var rfl) (ev_tup (ea_cons ev_int (ea_cons ev_int ea_nil)) (by decide)) (r_inT rfl rfl))) hi ?_
    obtain ⟨g1, g2, g3⟩ := atom_lay ha
    have hs : SeqAt.shaped (pd x) = true := by
      show ((pd x).canLay0 && decide ((pd x).depth ≤ 64)) = true
      rw [g1, decide_eq_true (by omega)]
      rfl
    refine ex_ret (ev_op (ev_var rfl) (ev_var rfl) (r_eqD g3 g3 hs hs)) ?_
    show PV.bl _ = PV.bl true
    rw [PySem.SeqAt.eqv_refl _ g1]
  have deep : ∀ (l : List PV) (m : Nat), n = m + 1 → l.length ≤ 100000 → isLks m l = true → ∀ {wi : TI}, ItR wi [some (.val x), some (.val x), some (.val (.int (sortP x))), none, none] (pairsP l l) [some (.val x), some (.val x), some (.val (.int (sortP x))), none, none] →
      EvR (tOp (rEqD K) (tLc wi (gTup K 2 (gCons (gName 3) (gCons (gName 4) gNil))) (tNot (tB (tCall (spOf (R_prevL n)) [] E0 (tCons (tVar 3) (tCons (tVar 4) tNil))))) (tC (.int 1)) [3, 4]) (tLst tNil)) [some (.val x), some (.val x), some (.val (.int (sortP x))), none, none] (.bl true) [some (.val x), some (.val x), some (.val (.int (sortP x))), none, none] := fun l m en hl hlk wi hi => by
    subst en
    refine ev_is (x := .bl (decide (([] : List PV) = []))) (ev_op (ev_new ?_) (ev_new (en_lst ea_nil (by decide))) (r_eqNil fun x hx => by cases hx)) rfl
    have key := en_lcP (te := tC (.int 1)) (tt := tNot (tB (tCall (spOf (R_law_like m)) [] E0 (tCons (tVar 3) (tCons (tVar 4) tNil))))) (g := gTup K 2 (gCons (gName 3) (gCons (gName 4) gNil))) (vs := [3, 4]) (fun _ => none) hi (fun k hk o c => by
      have : k = 3 ∨ k = 4 := by simpa using hk
      rcases this with rfl | rfl <;> exact fun z => by cases z) (by unfold pairsP; rw [List.length_map, List.length_zip]; omega) (fun z hz => by
      obtain ⟨p, hp, rfl⟩ := List.mem_map.mp hz
      obtain ⟨e1, e2⟩ := zip_self hp
      refine ⟨[some (.val x), some (.val x), some (.val (.int (sortP x))), some (.val p.1), some (.val p.2)], tw_tup (tws_cons (tw_name (by simp)) (tws_cons (tw_name (by simp)) tws_nil)) rfl, ?_, fun k hk => ?_⟩
      · show EvB _ _ false _
        refine eb_not (b := true) (eb_B (ev_call (ea_cons (ev_var rfl) (ea_cons (ev_var rfl) ea_nil)) (spP ⟨p.1, by rw [← e1], isLks_mem hlk _ e2, rfl⟩)))
      · have h3 : k ≠ 3 := fun z => hk (by simp [z])
        have h4 : k ≠ 4 := fun z => hk (by simp [z])
        match k, h3, h4 with
        | 0, _, _ => rfl
        | 1, _, _ => rfl
        | 2, _, _ => rfl
        | k + 5, _, _ => rfl)
    have e : (pairsP l l).filterMap (fun _ => (none : Option PV)) = [] := by
      induction (pairsP l l) with
      | nil => rfl
      | cons a l ih => exact ih
    rw [e] at key
    exact key
  cases x with
  | ty m => exact absurd rfl (hty m)
  | non => exact leaf rfl rfl rfl
  | bl b => exact leaf rfl rfl rfl
  | int b => exact leaf rfl rfl rfl
  | str b => exact leaf rfl (by cases n <;> exact hx) rfl
  | tup l =>
    obtain ⟨m, rfl, hl, hlk⟩ : ∃ m, n = m + 1 ∧ l.length ≤ 100000 ∧ isLks m l = true := by
      cases n with
      | zero => cases hx
      | succ m =>
        have hx : (decide (l.length ≤ 100000) && isLks m l) = true := hx
        rw [Bool.and_eq_true, decide_eq_true_eq] at hx
        exact ⟨m, rfl, hx.1, hx.2⟩
    refine ex_gTb _ (eb_test (ev_op (ev_var rfl) (ev_tup (ea_cons ev_int (ea_cons ev_int ea_nil)) (by decide)) (r_inT rfl rfl))) (by rfl) fun M => ?_
    refine ex_ret (x := .bl (decide ((l.length : Int) = (l.length : Int)) && true)) (ev_andP (ev_op (ev_cb (ea_cons (ev_var rfl) ea_nil) c_lenT) (ev_cb (ea_cons (ev_var rfl) ea_nil) c_lenT) r_eqI) fun _ => deep l m rfl hl hlk (it_zipT (ea_cons (ev_var rfl) (ea_cons (ev_var rfl) ea_nil)))) ?_
    show PV.bl _ = PV.bl true
    simp
  | lst l =>
    obtain ⟨m, rfl, hl, hlk⟩ : ∃ m, n = m + 1 ∧ l.length ≤ 100000 ∧ isLks m l = true := by
      cases n with
      | zero => cases hx
      | succ m =>
        have hx : (decide (l.length ≤ 100000) && isLks m l) = true := hx
        rw [Bool.and_eq_true, decide_eq_true_eq] at hx
        exact ⟨m, rfl, hx.1, hx.2⟩
    refine ex_gTb _ (eb_test (ev_op (ev_var rfl) (ev_tup (ea_cons ev_int (ea_cons ev_int ea_nil)) (by decide)) (r_inT rfl rfl))) (by rfl) fun M => ?_
    refine ex_ret (x := .bl (decide ((l.length : Int) = (l.length : Int)) && true)) (ev_andP (ev_op (ev_cb (ea_cons (ev_var rfl) ea_nil) c_lenL) (ev_cb (ea_cons (ev_var rfl) ea_nil) c_lenL) r_eqI) fun _ => deep l m rfl hl hlk (it_zipL (ea_cons (ev_var rfl) (ea_cons (ev_var rfl) ea_nil)))) ?_
    show PV.bl _ = PV.bl true
    simp
theorem ok__law_like (T : Txt K mg a d) : ∀ n, FnOk P w K mg base CX0 (2 + n) (a 29) (d 29) ["one", "other"] (spOf (R_law_like n))
  | 0 => ok__law_like1 T 0 ok_never
  | n + 1 => ok__law_like1 T (n + 1) (by rw [show 1 + (n + 1) = 2 + n by omega]; exact ok__law_like T n)
end
end K10
end
section
set_option maxRecDepth 100000
set_option maxHeartbeats 400000
namespace K10
open PySem PySem.Spec TLy TL NumText
/-! what the cup's things are -/
theorem isTh_mono : ∀ {n : Nat} {x : PV}, isTh n x = true → isTh (n + 1) x = true
  | n, .non, _ => isTh_non _
  | n, .int i, h => by rw [isTh_int] at h ⊢; exact h
  | n, .str s, h => by rw [isTh_str] at h ⊢; exact h
  | n, .bl b, h => by rw [isTh_bl] at h; cases h
  | n, .lst l, h => by rw [isTh_lst] at h; cases h
  | n, .ty m, h => by cases n <;> cases h
  | 0, .tup l, h => by cases h
  | n + 1, .tup l, h => by
    have h : isThs n l = true := h
    show isThs (n + 1) l = true
    exact isThs_of fun x hx => isTh_mono (isThs_mem h x hx)
theorem isTh_le {n m : Nat} {x : PV} (h : isTh n x = true) (hm : n ≤ m) : isTh m x = true := by
  obtain ⟨k, rfl⟩ : ∃ k, m = n + k := ⟨m - n, by omega⟩
  clear hm
  induction k with
  | zero => exact h
  | succ k ih => exact isTh_mono ih
theorem intL_len {i : Int} (h : (decide (-MOSTv < i) && decide (i < MOSTv)) = true) : (intL i).length ≤ 201 := by
  have h1 := natAbs_lt h
  have h2 := (len_le (n := i.natAbs) (k := 200) (by decide)).mpr h1
  unfold intL
  split
  · rw [List.length_cons]; omega
  · omega
theorem leaf0_ok : ∀ x ∈ leaf0, isTh 1 x = true ∧ (txt x).length ≤ 210 := by
  intro x hx
  simp only [leaf0, List.mem_cons, List.not_mem_nil, or_false] at hx
  rcases hx with rfl | rfl | rfl | rfl | rfl | rfl | rfl | rfl | rfl | rfl | rfl
  · exact ⟨rfl, by decide⟩
  · have h : isTh 1 (.int 0) = true := by rw [isTh_int]; decide +kernel
    refine ⟨h, ?_⟩
    rw [isTh_int] at h
    have := intL_len h
    show (intL 0).length ≤ 210
    omega
  · exact ⟨rfl, by decide⟩
  all_goals
    refine ⟨by decide +kernel, ?_⟩
    decide +kernel
theorem leaf1_ok : ∀ x ∈ leaf1, isTh 1 x = true ∧ (txt x).length ≤ 210 := by
  intro x hx
  simp only [leaf1, List.mem_cons, List.not_mem_nil, or_false] at hx
  have key : ∀ i : Int, (decide (-MOSTv < i) && decide (i < MOSTv)) = true → isTh 1 (.int i) = true ∧ (txt (.int i)).length ≤ 210 := fun i h => by
    refine ⟨by rw [isTh_int]; exact h, ?_⟩
    have := intL_len h
    show (intL i).length ≤ 210
    omega
  rcases hx with rfl | rfl | rfl | rfl | rfl | rfl | rfl <;> exact key _ (by decide +kernel)
theorem strTh {l : List Nat} (h : l.length ≤ 12) (hs : ∀ c ∈ l, signOk c = true) : isTh 1 (.str (S l)) = true ∧ (txt (.str (S l))).length ≤ 210 := by
  refine ⟨?_, ?_⟩
  · rw [isTh_str, Bool.and_eq_true, decide_eq_true_eq, List.all_eq_true]
    exact ⟨by rw [S_len]; omega, hs⟩
  · show (61 :: (numL (S l).length ++ 58 :: l)).length ≤ 210
    have := (len_le (n := (S l).length) (k := 2) (by decide)).mpr (by rw [S_len]; omega)
    rw [List.length_cons, List.length_append, List.length_cons]
    omega
theorem leafF_ok (u : Cup) : isTh 1 (leafF u).1 = true ∧ (txt (leafF u).1).length ≤ 210 := by
  unfold leafF
  simp only
  split
  · exact leaf0_ok _ (someF_mem _ (by decide))
  · split
    · exact leaf1_ok _ (someF_mem _ (by decide))
    · refine strTh ?_ (fun c hc => ?_)
      · rw [List.length_map, List.length_range]
        have : (someG (rollF u 4).2 cnt0 0).1 ∈ cnt0 := someG_mem _ _ (by decide)
        have h2 : ∀ n ∈ cnt0, n ≤ 12 := by decide
        exact h2 _ this
      · obtain ⟨i, _, rfl⟩ := List.mem_map.mp hc
        have : (sgnAt (cupN (someG (rollF u 4).2 cnt0 0).2 i)).1 ∈ sgns := someG_mem _ _ (by decide)
        have h2 : ∀ n ∈ sgns, signOk n = true := by decide
        exact h2 _ this
theorem stepT_ok {s : PV × Cup} {n m : Nat} (h : isTh n s.1 = true) (hn : 1 ≤ n) (hl : (txt s.1).length ≤ m) : isTh (n + 1) (stepT s).1 = true ∧ (txt (stepT s).1).length ≤ m + 430 := by
  obtain ⟨p1, p2⟩ := leafF_ok s.2
  obtain ⟨q1, q2⟩ := leafF_ok (leafF s.2).2
  obtain ⟨r1, r2⟩ := leafF_ok (leafF (leafF s.2).2).2
  have hm : (stepT s).1 ∈ [PV.tup [s.1], .tup [s.1, (leafF s.2).1], .tup [(leafF (leafF s.2).2).1, s.1, (leafF (leafF (leafF s.2).2).2).1]] := someF_mem _ (Nat.le_of_ble_eq_true rfl)
  simp only [List.mem_cons, List.not_mem_nil, or_false] at hm
  rcases hm with e | e | e
  · rw [e]
    refine ⟨?_, ?_⟩
    · show (isTh n s.1 && true) = true
      rw [h]; rfl
    · show (60 :: (txt s.1 ++ [62])).length ≤ _
      rw [List.length_cons, List.length_append, List.length_singleton]
      omega
  · rw [e]
    refine ⟨?_, ?_⟩
    · show (isTh n s.1 && (isTh n _ && true)) = true
      rw [h, isTh_le p1 hn]; rfl
    · show (60 :: ((txt s.1 ++ 44 :: txt (leafF s.2).1) ++ [62])).length ≤ _
      rw [List.length_cons, List.length_append, List.length_append, List.length_cons, List.length_singleton]
      omega
  · rw [e]
    refine ⟨?_, ?_⟩
    · show (isTh n _ && (isTh n _ && (isTh n _ && true))) = true
      rw [h, isTh_le q1 hn, isTh_le r1 hn]; rfl
    · show (60 :: ((txt (leafF (leafF s.2).2).1 ++ 44 :: (txt s.1 ++ 44 :: txt (leafF (leafF (leafF s.2).2).2).1)) ++ [62])).length ≤ _
      rw [List.length_cons, List.length_append, List.length_append, List.length_cons, List.length_append, List.length_cons, List.length_singleton]
      omega
theorem thN_ok {s : PV × Cup} (h : isTh 1 s.1 = true) (hl : (txt s.1).length ≤ 210) : ∀ k, isTh (1 + k) (thN s k).1 = true ∧ (txt (thN s k).1).length ≤ 210 + 430 * k
  | 0 => ⟨h, hl⟩
  | k + 1 => by
    obtain ⟨h1, h2⟩ := thN_ok h hl k
    obtain ⟨g1, g2⟩ := stepT_ok h1 (by omega) h2
    exact ⟨g1, by show (txt (stepT (thN s k)).1).length ≤ _; omega⟩
theorem thingF_ok (u : Cup) : isTh 20 (thingF u).1 = true ∧ (txt (thingF u).1).length ≤ 8400 := by
  obtain ⟨h1, h2⟩ := leafF_ok u
  have hk : (someG (leafF u).2 cnt1 0).1 ≤ 19 := by
    have : (someG (leafF u).2 cnt1 0).1 ∈ cnt1 := someG_mem _ _ (by decide)
    have h2 : ∀ n ∈ cnt1, n ≤ 19 := by decide
    exact h2 _ this
  obtain ⟨g1, g2⟩ := thN_ok (s := ((leafF u).1, (someG (leafF u).2 cnt1 0).2)) h1 h2 (someG (leafF u).2 cnt1 0).1
  exact ⟨isTh_le g1 (by omega), by
    show (txt (thN ((leafF u).1, (someG (leafF u).2 cnt1 0).2) (someG (leafF u).2 cnt1 0).1).1).length ≤ _
    omega⟩
def okT' (t : List Nat) : Prop := ∀ c ∈ t, c ≠ 37 ∧ c < 128
theorem numL_ok (n : Nat) : okT' (numL n) := fun c hc => by
  have := dig_iff.mp (numL_dig n c hc)
  omega
theorem okT_app {a b : List Nat} (h : okT' a) (g : okT' b) : okT' (a ++ b) := fun c hc => by
  rcases List.mem_append.mp hc with z | z
  · exact h c z
  · exact g c z
theorem okT_cons {c : Nat} {b : List Nat} (h : c ≠ 37 ∧ c < 128) (g : okT' b) : okT' (c :: b) := fun c' hc => by
  rcases List.mem_cons.mp hc with rfl | z
  · exact h
  · exact g c' z
theorem okT_nil : okT' [] := fun c h => by cases h
theorem joinC_ok : ∀ (l : List (List Nat)), (∀ x ∈ l, okT' x) → okT' (joinC l)
  | [], _ => okT_nil
  | [x], h => h x (by simp)
  | x :: y :: r, h => okT_app (h x (by simp)) (okT_cons (by decide) (joinC_ok (y :: r) fun z hz => h z (List.mem_cons_of_mem _ hz)))
theorem sign_ok {c : Nat} (h : signOk c = true) : c ≠ 37 ∧ c < 128 := by
  unfold signOk at h
  simp at h
  omega
theorem txt_ok : ∀ {n : Nat} {x : PV}, isTh n x = true → okT' (txt x)
  | n, .non, _ => okT_cons (by decide) okT_nil
  | n, .int i, h => by
    show okT' (intL i)
    unfold intL
    split
    · exact okT_cons (by decide) (numL_ok _)
    · exact numL_ok _
  | n, .str s, h => by
    rw [isTh_str, Bool.and_eq_true, List.all_eq_true] at h
    exact okT_cons (by decide) (okT_app (numL_ok _) (okT_cons (by decide) fun c hc => sign_ok (h.2 c hc)))
  | n, .bl b, h => by rw [isTh_bl] at h; cases h
  | n, .lst l, h => by rw [isTh_lst] at h; cases h
  | n, .ty m, h => by cases n <;> cases h
  | 0, .tup l, h => by cases h
  | n + 1, .tup l, h => by
    have h : isThs n l = true := h
    refine okT_cons (by decide) (okT_app (joinC_ok _ fun z hz => ?_) (okT_cons (by decide) okT_nil))
    rw [txts_map] at hz
    obtain ⟨x, hx, rfl⟩ := List.mem_map.mp hz
    exact txt_ok (isThs_mem h x hx)
theorem isTh_sz : ∀ {n : Nat} {x : PV}, isTh n x = true → (txt x).length ≤ 60000 → sz x = true
  | n, .non, _, _ => rfl
  | n, .int i, h, _ => rfl
  | n, .str s, h, _ => by
    rw [isTh_str, Bool.and_eq_true, decide_eq_true_eq] at h
    exact decide_eq_true (by omega)
  | n, .bl b, h, _ => rfl
  | n, .lst l, h, _ => by rw [isTh_lst] at h; cases h
  | n, .ty m, h, _ => by cases n <;> cases h
  | 0, .tup l, h, _ => by cases h
  | n + 1, .tup l, h, hl => by
    have h : isThs n l = true := h
    have hlen : (txt (.tup l)).length = (joinC (txts l)).length + 2 := by
      show (60 :: (joinC (txts l) ++ [62])).length = _
      simp
    have h1 := joinC_len l fun x hx => isTh_txt (isThs_mem h x hx)
    show (decide (l.length ≤ 70000) && szs l) = true
    rw [decide_eq_true (by omega), szs_of fun x hx => isTh_sz (isThs_mem h x hx) (by
      have := joinC_mem (txts l) (txt x) (by rw [txts_map]; exact List.mem_map_of_mem hx)
      omega)]
    rfl
theorem isTh_lk : ∀ {n : Nat} {x : PV}, isTh n x = true → (txt x).length ≤ 100000 → isLk n x = true
  | n, .non, _, _ => by cases n <;> rfl
  | n, .int i, h, _ => by cases n <;> rfl
  | n, .str s, h, _ => by
    rw [isTh_str, Bool.and_eq_true, List.all_eq_true] at h
    have : PyData.strOk s = true := by
      unfold PyData.strOk
      rw [← Array.all_toList, List.all_eq_true]
      intro c hc
      have := sign_ok (h.2 c hc)
      exact decide_eq_true (by omega)
    cases n <;> exact this
  | n, .bl b, h, _ => by rw [isTh_bl] at h; cases h
  | n, .lst l, h, _ => by rw [isTh_lst] at h; cases h
  | n, .ty m, h, _ => by cases n <;> cases h
  | 0, .tup l, h, _ => by cases h
  | n + 1, .tup l, h, hl => by
    have h : isThs n l = true := h
    have hlen : (txt (.tup l)).length = (joinC (txts l)).length + 2 := by
      show (60 :: (joinC (txts l) ++ [62])).length = _
      simp
    have h1 := joinC_len l fun x hx => isTh_txt (isThs_mem h x hx)
    show (decide (l.length ≤ 100000) && isLks n l) = true
    rw [decide_eq_true (by omega), isLks_of fun x hx => isTh_lk (isThs_mem h x hx) (by
      have := joinC_mem (txts l) (txt x) (by rw [txts_map]; exact List.mem_map_of_mem hx)
      omega)]
    rfl
theorem str_lk {n : Nat} {t : List Nat} (h : okT' t) : isLk n (.str (S t)) = true := by
  have : PyData.strOk (S t) = true := by
    unfold PyData.strOk
    rw [← Array.all_toList, List.all_eq_true]
    intro c hc
    exact decide_eq_true (by have := h c hc; omega)
  cases n <;> exact this
theorem bentF_ok (u : Cup) {t : List Nat} (h : okT' t) : okT' (bentF u t).1 ∧ (bentF u t).1.length ≤ t.length + 5 := by
  have hm : (someG (rollF (rollF u (t.length + 1)).2 4).2 marks []).1 ∈ marks := someG_mem _ _ (by decide)
  have h1 : ∀ l ∈ marks, l.length ≤ 5 ∧ (l.all fun c => decide (c ≠ 37) && decide (c < 128)) = true := by decide
  obtain ⟨g1, g2⟩ := h1 _ hm
  have g2 : okT' (someG (rollF (rollF u (t.length + 1)).2 4).2 marks []).1 := fun c hc => by
    have := List.all_eq_true.mp g2 c hc
    simpa using this
  have ht : ∀ i, okT' (t.take i) := fun i c hc => h c (List.mem_of_mem_take hc)
  have hd : ∀ i, okT' (t.drop i) := fun i c hc => h c (List.mem_of_mem_drop hc)
  unfold bentF
  simp only
  split
  · refine ⟨okT_app (okT_app (ht _) g2) (hd _), ?_⟩
    rw [List.length_append, List.length_append, List.length_take, List.length_drop]
    omega
  · split
    · refine ⟨okT_app (okT_app (ht _) g2) (hd _), ?_⟩
      rw [List.length_append, List.length_append, List.length_take, List.length_drop]
      omega
    · refine ⟨ht _, ?_⟩
      rw [List.length_take]
      omega
end K10
end
section
set_option maxRecDepth 100000
set_option maxHeartbeats 400000
namespace K10
open PySem PySem.Spec PyProof.Rows L2 TLy TL NumText
/-! steps, one by one -/
local macro_rules | `(tactic| walk_at "ev") => `(tactic| first
  | exact ev_var rfl
  | exact ev_int
  | exact ev_str
  | exact ev_bl
  | exact ev_non
  | exact ev_ty
  | exact ea_nil
  | exact eo_none
  | exact r_add
  | exact r_sub
  | exact r_lt
  | exact r_le
  | exact r_gt
  | exact r_ge
  | exact r_eqI
  | exact r_neI
  | exact r_eqS
  | exact r_neS
  | exact r_leS
  | exact r_inSign
  | exact r_isN
  | exact r_notN
  | exact u_neg
  | exact c_intI
  | exact c_abs
  | exact c_ord
  | exact c_lenT
  | exact c_lenL
  | exact c_all
  | exact Nat.le_of_ble_eq_true rfl
  | exact c_tupL
  | exact c_lstL
  | exact c_lstT
  | exact u_slT
  | exact u_slL
  | exact tg_name
  | exact tgs_nil
  | ((with_reducible refine' ev_lenM ?_) <;> rfl)
  | ((with_reducible refine' ev_op ?_ ?_ ?_) <;> try walk_at "ev")
  | ((with_reducible refine' ev_un ?_ ?_) <;> try walk_at "ev")
  | ((with_reducible refine' ea_cons ?_ ?_) <;> try walk_at "ev")
  | ((with_reducible refine' eo_some ?_) <;> try walk_at "ev")
  | ((with_reducible refine' ev_cb ?_ ?_) <;> try walk_at "ev")
  | ((with_reducible refine' ev_sl ?_ ?_ ?_ ?_) <;> try walk_at "ev")
  | ((with_reducible refine' ev_chain ?_ ?_ ?_ ?_ ?_) <;> try walk_at "ev")
  | ((with_reducible refine' eb_test ?_) <;> try walk_at "ev")
  | ((with_reducible refine' eb_B ?_) <;> try walk_at "ev")
  | ((with_reducible refine' eb_not ?_) <;> try walk_at "ev")
  | ((with_reducible refine' eb_andP ?_ ?_) <;> try walk_at "ev")
  | ((with_reducible refine' eb_orP ?_ ?_) <;> try walk_at "ev")
  | ((with_reducible refine' ev_andP ?_ ?_) <;> try walk_at "ev")
  | ((with_reducible refine' ev_orP ?_ ?_) <;> try walk_at "ev")
  | ((with_reducible refine' ev_notP ?_) <;> try walk_at "ev")
  | ((with_reducible refine' ev_tup ?_ ?_) <;> try walk_at "ev")
  | ((with_reducible refine' ev_lst ?_ ?_) <;> try walk_at "ev")
  | ((with_reducible refine' ev_call ?_ ?_) <;> first | assumption | walk_at "ev" | skip)
  | ((with_reducible refine' tg_tup ?_ ?_) <;> try walk_at "ev")
  | ((with_reducible refine' tgs_cons ?_ ?_) <;> try walk_at "ev")
  | (refine' r_mul ?_)
  | (refine' r_modN ?_)
  | (refine' r_fdivN ?_)
  | (refine' r_pow ?_)
  | (refine' r_addS ?_)
  | (refine' r_catT ?_)
  | (refine' r_catL ?_)
  | (refine' r_ixT ?_)
  | (refine' r_ixL ?_)
  | (refine' r_ixS ?_ ?_ <;> first | exact len_sz (by omega) | exact at_get _ _ (by assumption) | skip)
  | (refine' u_slS ?_ <;> first | exact len_sz (by omega) | skip)
  | (refine' c_lenS ?_ <;> first | exact len_sz (by omega) | skip)
  | (refine' c_strI ?_)
  | (refine' c_intS ?_ ?_)
  | with_reducible exact isi_NB
  | with_reducible exact isi_NI
  | with_reducible exact isi_NS
  | with_reducible exact isi_NT
  | with_reducible exact isi_NL
  | with_reducible exact isi_BB
  | with_reducible exact isi_BI
  | with_reducible exact isi_BS
  | with_reducible exact isi_BT
  | with_reducible exact isi_BL
  | with_reducible exact isi_IB
  | with_reducible exact isi_II
  | with_reducible exact isi_IS
  | with_reducible exact isi_IT
  | with_reducible exact isi_IL
  | with_reducible exact isi_SB
  | with_reducible exact isi_SI
  | with_reducible exact isi_SS
  | with_reducible exact isi_ST
  | with_reducible exact isi_SL
  | with_reducible exact isi_TB
  | with_reducible exact isi_TI
  | with_reducible exact isi_TS
  | with_reducible exact isi_TT
  | with_reducible exact isi_TL
  | with_reducible exact isi_LB
  | with_reducible exact isi_LI
  | with_reducible exact isi_LS
  | with_reducible exact isi_LT
  | with_reducible exact isi_LL
  | (refine' r_eqD ?_ ?_ ?_ ?_)
  | (refine' r_neD ?_ ?_ ?_ ?_)
  | (intro _h; walk_at "ev"))

theorem cutS_pre (t : List Nat) (i : Nat) : cutS (S t) none (some (i : Int)) = S (t.take i) := by
  unfold cutS
  rw [HT.sIx_none, HT.sIx_nat, S_len, S_list, List.drop_zero, Nat.sub_zero]
  show S _ = S _
  congr 1
  by_cases h : i ≤ t.length
  · rw [Nat.min_eq_left h]
  · rw [Nat.min_eq_right (by omega), List.take_of_length_le (Nat.le_refl _), List.take_of_length_le (by omega)]
theorem cutS_suf (t : List Nat) (i : Nat) : cutS (S t) (some (i : Int)) none = S (t.drop i) := by
  unfold cutS
  rw [HT.sIx_none, HT.sIx_nat, S_len, S_list]
  show S _ = S _
  congr 1
  by_cases h : i ≤ t.length
  · rw [Nat.min_eq_left h, List.take_of_length_le (by rw [List.length_drop]; omega)]
  · rw [Nat.min_eq_right (by omega), Nat.sub_self, List.take_zero, List.drop_eq_nil_of_le (by omega)]
section
variable {P : Program} {w : World} {K : PySem.W.Frag} {mg : Str → Option Value} {base : Heap} {a : Nat → Addr} {d : Nat → FuncData}
theorem call_leaf {E : XK} {τ : TEnv} {o : Bool} {u : Cup} (h0 : τ[0]? = some (some (.mu o (cupC u)))) : EvR (tCall (spOfC R_leaf) [] E (tCons (tVar 0) tNil)) τ (leafF u).1 (τ.set 0 (some (.mu o (cupC (leafF u).2)))) :=
  ev_callC h0 ea_nil h0 (spC ⟨u, rfl, rfl, rfl, rfl⟩)
def R_thing : Cell → List PV → PV → Cell → Prop := fun c xs y c' => ∃ u : Cup, c = cupC u ∧ xs = [] ∧ y = (thingF u).1 ∧ c' = cupC (thingF u).2
theorem ok__law_thing (T : Txt K mg a d) : FnOk P w K mg base CX0 4 (a 37) (d 37) ["cup"] (spOfC R_thing) := by
  refine ok_cell T._law_thing.F sc__law_thing (fun c xs y c' h => by obtain ⟨u, _, rfl, _⟩ := h; rfl) (by decide) (fun cdv A outer s H E hr c xs y c' h => ?_)
  obtain ⟨u, rfl, rfl, rfl, rfl⟩ := h
  refine ⟨_, (pss_cons (ps_set (i := 1) sc__law_thing.nd rfl (by first | exact Or.inl rfl | exact Or.inr rfl) (pe_call (ok__law_leaf T) (hr.mono (by first | decide | omega)) (by rfl) T._law_leaf.g T._law_leaf.F.kp T._law_leaf.b .nil pass0 (pa_cons (pv 0) pa_nil)))
      (pss_cons (ps_for PassesOwn.never rfl (pi_range1 (by rfl) T.n_range (pa_cons (pe_call (ok__law_some T) (hr.mono (by first | decide | omega)) (by rfl) T._law_some.g T._law_some.F.kp T._law_some.b .nil pass0 (pa_cons (pv 0) (pa_cons (pe_lst (pa_cons pe_int (pa_cons pe_int (pa_cons pe_int (pa_cons pe_int (pa_cons pe_int pa_nil)))))) pa_nil))) pa_nil)) (pg_name (i := 2) sc__law_thing.nd rfl (by first | exact Or.inl rfl | exact Or.inr rfl)) (pss_one (ps_set (i := 1) sc__law_thing.nd rfl (by first | exact Or.inl rfl | exact Or.inr rfl) (pe_call (ok__law_some T) (hr.mono (by first | decide | omega)) (by rfl) T._law_some.g T._law_some.F.kp T._law_some.b .nil pass0 (pa_cons (pv 0) (pa_cons (pe_lst (pa_cons (pe_tup (pa_cons (pv 1) pa_nil)) (pa_cons (pe_tup (pa_cons (pv 1) (pa_cons (pe_call (ok__law_leaf T) (hr.mono (by first | decide | omega)) (by rfl) T._law_leaf.g T._law_leaf.F.kp T._law_leaf.b .nil pass0 (pa_cons (pv 0) pa_nil)) pa_nil))) (pa_cons (pe_tup (pa_cons (pe_call (ok__law_leaf T) (hr.mono (by first | decide | omega)) (by rfl) T._law_leaf.g T._law_leaf.F.kp T._law_leaf.b .nil pass0 (pa_cons (pv 0) pa_nil)) (pa_cons (pv 1) (pa_cons (pe_call (ok__law_leaf T) (hr.mono (by first | decide | omega)) (by rfl) T._law_leaf.g T._law_leaf.F.kp T._law_leaf.b .nil pass0 (pa_cons (pv 0) pa_nil)) pa_nil)))) pa_nil)))) pa_nil))))))
      (pss_one (ps_ret (pv 1))))), ?_⟩
  show Exec E _ [some (.mu false (cupC u)), none, none] _
  obtain ⟨l, hl⟩ : ∃ l, l = leafF u := ⟨_, rfl⟩
  obtain ⟨k, hk⟩ : ∃ k, k = someG l.2 cnt1 0 := ⟨_, rfl⟩
  have hT : thingF u = thN (l.1, k.2) k.1 := by
    unfold thingF
    simp only [← hl, ← hk]
  rw [hT]
  have hk19 : k.1 ≤ 19 := by
    have : k.1 ∈ cnt1 := by rw [hk]; exact someG_mem _ _ (by decide)
    have : ∀ n ∈ cnt1, n ≤ 19 := by decide
    exact this _ (by assumption)
  have hcnt : EvR (tCall (spOfC R_law_some) [] E0 (tCons (tVar 0) (tCons (tLst (tCons (tC (.int 0)) (tCons (tC (.int 1)) (tCons (tC (.int 2)) (tCons (tC (.int 4)) (tCons (tC (.int 19)) tNil)))))) tNil))) [some (.mu false (cupC l.2)), some (.val l.1), none] (.int (k.1 : Nat)) [some (.mu false (cupC k.2)), some (.val l.1), none] := by
    have h := call_some (E := E0) (o := false) (u := l.2) (l := cnt1.map fun n : Nat => PV.int n) (τ := [some (.mu false (cupC l.2)), some (.val l.1), none]) (τ1 := [some (.mu false (cupC l.2)), some (.val l.1), none]) rfl atoms5 rfl (by decide) (by decide)
    rw [someF_map (fun n : Nat => PV.int n) _ _ 0 (by decide), ← hk] at h
    exact h
  refine ex_seq1 (ex_set (x := l.1) (τ1 := [some (.mu false (cupC l.2)), none, none]) (by rw [hl]; exact call_leaf rfl) rfl) ?_
  refine ex_seq (fun τ' => ∃ s2, τ' = [some (.mu false (cupC (thN (l.1, k.2) k.1).2)), some (.val (thN (l.1, k.2) k.1).1), s2])
    (ex_for (τ1 := [some (.mu false (cupC k.2)), some (.val l.1), none]) (fun i τ' => ∃ s2, τ' = [some (.mu false (cupC (thN (l.1, k.2) i).2)), some (.val (thN (l.1, k.2) i).1), s2]) (it_range1 (n := k.1) (ea_cons hcnt ea_nil) (by omega) (by omega)) ⟨none, rfl⟩ ?_ ?_) ?_
  · rintro i x _ hx ⟨s2, rfl⟩
    refine ⟨_, tg_name, ?_⟩
    obtain ⟨f, hf⟩ : ∃ f, f = thN (l.1, k.2) i := ⟨_, rfl⟩
    have hn : thN (l.1, k.2) (i + 1) = stepT f := by rw [hf]; rfl
    rw [← hf]
    show Exec E _ [some (.mu false (cupC f.2)), some (.val f.1), some (.val x)] _
    refine ex_set (x := (stepT f).1) (τ1 := [some (.mu false (cupC (stepT f).2)), some (.val f.1), some (.val x)]) ?_ ⟨some (.val x), by rw [hn]; rfl⟩
    exact call_some (o := false) (u := (leafF (leafF (leafF f.2).2).2).2) (l := [.tup [f.1], .tup [f.1, (leafF f.2).1], .tup [(leafF (leafF f.2).2).1, f.1, (leafF (leafF (leafF f.2).2).2).1]]) (τ := [some (.mu false (cupC f.2)), some (.val f.1), some (.val x)]) (τ1 := [some (.mu false (cupC (leafF (leafF (leafF f.2).2).2).2)), some (.val f.1), some (.val x)]) rfl
      (ea_cons (ev_tup (ea_cons (ev_var rfl) ea_nil) (Nat.le_of_ble_eq_true rfl)) (ea_cons (τ1 := [some (.mu false (cupC (leafF f.2).2)), some (.val f.1), some (.val x)]) (ev_tup (ea_cons (ev_var rfl) (ea_cons (call_leaf (u := f.2) (o := false) rfl) ea_nil)) (Nat.le_of_ble_eq_true rfl)) (ea_cons (ev_tup (ea_cons (τ1 := [some (.mu false (cupC (leafF (leafF f.2).2).2)), some (.val f.1), some (.val x)]) (call_leaf (u := (leafF f.2).2) (o := false) rfl) (ea_cons (ev_var rfl) (ea_cons (call_leaf (u := (leafF (leafF f.2).2).2) (o := false) rfl) ea_nil))) (Nat.le_of_ble_eq_true rfl)) ea_nil))) rfl (Nat.le_of_ble_eq_true rfl) (Nat.le_of_ble_eq_true rfl)
  · rintro τ' ⟨s2, rfl⟩
    have e : (rangeP 0 (k.1 : Int).toNat).length = k.1 := by
      unfold rangeP
      rw [List.length_map, List.length_range, Int.toNat_natCast]
    rw [e]
    exact ⟨s2, rfl⟩
  · rintro τ' ⟨s2, rfl⟩
    exact ex_ret (ev_var rfl) ⟨rfl, 0, rfl⟩
def R_bent : Cell → List PV → PV → Cell → Prop := fun c xs y c' => ∃ (u : Cup) (t : List Nat), c = cupC u ∧ xs = [.str (S t)] ∧ t.length ≤ 99000 ∧ y = .str (S (bentF u t).1) ∧ c' = cupC (bentF u t).2
theorem ok__law_bent (T : Txt K mg a d) : FnOk P w K mg base CX0 4 (a 38) (d 38) ["cup", "text"] (spOfC R_bent) := by
  refine ok_cell T._law_bent.F sc__law_bent (fun c xs y c' h => by obtain ⟨u, t, _, rfl, _⟩ := h; rfl) (by decide) (fun cdv A outer s H E hr c xs y c' h => ?_)
  obtain ⟨u, t, rfl, rfl, hl, rfl, rfl⟩ := h
  refine ⟨_, (pss_cons (ps_par (i := 2) (j := 3) (by rfl) sc__law_bent.nd rfl rfl (by decide) rfl rfl (pa_cons (pe_call (ok__law_roll T) (hr.mono (by first | decide | omega)) (by rfl) T._law_roll.g T._law_roll.F.kp T._law_roll.b .nil pass0 (pa_cons (pv 0) (pa_cons (pe_op op_add (pe_callB call_len (by rfl) T.n_len (by decide +kernel) (pa_cons (pv 1) pa_nil)) pe_int) pa_nil))) (pa_cons (pe_call (ok__law_roll T) (hr.mono (by first | decide | omega)) (by rfl) T._law_roll.g T._law_roll.F.kp T._law_roll.b .nil pass0 (pa_cons (pv 0) (pa_cons pe_int pa_nil))) pa_nil)) (by rfl))
      (pss_cons (ps_set (i := 4) sc__law_bent.nd rfl (by first | exact Or.inl rfl | exact Or.inr rfl) (pe_call (ok__law_some T) (hr.mono (by first | decide | omega)) (by rfl) T._law_some.g T._law_some.F.kp T._law_some.b .nil pass0 (pa_cons (pv 0) (pa_cons (pe_lst (pa_cons pe_str (pa_cons pe_str (pa_cons pe_str (pa_cons pe_str (pa_cons pe_str (pa_cons pe_str (pa_cons pe_str (pa_cons pe_str (pa_cons pe_str (pa_cons pe_str (pa_cons pe_str (pa_cons pe_str (pa_cons pe_str (pa_cons pe_str (pa_cons pe_str (pa_cons pe_str (pa_cons pe_str (pa_cons pe_str (pa_cons pe_str pa_nil)))))))))))))))))))) pa_nil))))
      (pss_cons (ps_if (pt_cmpR op_eq (pv 3) pe_int (nomark _)) (pss_one (ps_ret (pe_op op_add_str (pe_op op_add_str (pe_slice sl_str (pv 1) po_none (po_some (pv 2))) (pv 4)) (pe_slice sl_str (pv 1) (po_some (pv 2)) po_none)))) pss_nil)
      (pss_one (ps_ret (pe_ifExp (pt_cmpR op_lt (pv 3) pe_int (nomark _)) (pe_op op_add_str (pe_op op_add_str (pe_slice sl_str (pv 1) po_none (po_some (pv 2))) (pv 4)) (pe_slice sl_str (pv 1) (po_some (pe_op op_add (pv 2) pe_int)) po_none)) (pe_slice sl_str (pv 1) po_none (po_some (pv 2))))))))), ?_⟩
  show Exec E _ [some (.mu false (cupC u)), some (.val (.str (S t))), none, none, none] _
  obtain ⟨p, hp⟩ : ∃ p, p = rollF u (t.length + 1) := ⟨_, rfl⟩
  obtain ⟨q, hq⟩ : ∃ q, q = rollF p.2 4 := ⟨_, rfl⟩
  obtain ⟨m, hm⟩ : ∃ m, m = someG q.2 marks [] := ⟨_, rfl⟩
  obtain ⟨i, hi⟩ : ∃ i : Nat, p.1 = i := Int.eq_ofNat_of_zero_le (by rw [hp]; exact (rollF_lt u (by omega)).1)
  have hB : bentF u t = (if q.1 = 0 then t.take i ++ m.1 ++ t.drop i else if q.1 < 3 then t.take i ++ m.1 ++ t.drop (i + 1) else t.take i, m.2) := by
    unfold bentF
    simp only [← hp, ← hq, ← hm, hi, Int.toNat_natCast]
  have hml : m.1.length ≤ 5 := by
    have : m.1 ∈ marks := by rw [hm]; exact someG_mem _ _ (by decide)
    have : ∀ l ∈ marks, l.length ≤ 5 := by decide
    exact this _ (by assumption)
  rw [hB]
  refine ex_seq1 (ex_par (x := .int i) (y := .int q.1) (τ1 := [some (.mu false (cupC q.2)), some (.val (.str (S t))), none, none, none]) (ea_cons (τ1 := [some (.mu false (cupC p.2)), some (.val (.str (S t))), none, none, none]) ?_ (ea_cons (τ1 := [some (.mu false (cupC q.2)), some (.val (.str (S t))), none, none, none]) ?_ ea_nil)) rfl) ?_
  · rw [← hi, hp]
    exact call_roll rfl (ev_is (x := .int ((S t).length + 1)) (ev_op (ev_cb (ea_cons (ev_var rfl) ea_nil) (c_lenS (len_sz (by omega)))) ev_int r_add) (by rw [S_len])) rfl (by omega) (by omega)
  · rw [hq]
    exact call_roll rfl ev_int rfl (by decide) (by decide)
  refine ex_seq1 (ex_set (x := .str (S m.1)) (τ1 := [some (.mu false (cupC m.2)), some (.val (.str (S t))), some (.val (.int i)), some (.val (.int q.1)), none]) ?_ rfl) ?_
  · have h := call_some (E := E0) (o := false) (u := q.2) (l := marks.map fun c => PV.str (S c)) (τ := [some (.mu false (cupC q.2)), some (.val (.str (S t))), some (.val (.int i)), some (.val (.int q.1)), none]) (τ1 := [some (.mu false (cupC q.2)), some (.val (.str (S t))), some (.val (.int i)), some (.val (.int q.1)), none]) rfl (ea_strs ["<", ">", "<>", ",", "?", "=", ":", "-", "0", "1", "00", "-0", "=0:", "=1:", "=01:a", "a", " ", "", "\n"]) rfl (by decide) (by decide)
    rw [someF_map (fun c : List Nat => PV.str (S c)) _ _ [] (by decide), ← hm] at h
    exact h
  show Exec E _ [some (.mu false (cupC m.2)), some (.val (.str (S t))), some (.val (.int i)), some (.val (.int q.1)), some (.val (.str (S m.1)))] _
  have hcut : ∀ j : Nat, (S (t.take i)).length + (S m.1).length ≤ sizeLine ∧ (S (t.take i) ++ S m.1).length + (S (t.drop j)).length ≤ sizeLine := fun j => by
    have h1 : (t.take i).length ≤ t.length := List.length_take_le' _ _
    have h2 : (t.drop j).length ≤ t.length := by rw [List.length_drop]; omega
    rw [S_app, S_len, S_len, S_len, S_len, List.length_append]
    exact ⟨small (by omega), small (by omega)⟩
  have hpre : EvR (tSl rSlS (tVar 1) tNoPart (tPart (tVar 2))) [some (.mu false (cupC m.2)), some (.val (.str (S t))), some (.val (.int i)), some (.val (.int q.1)), some (.val (.str (S m.1)))] (.str (S (t.take i))) [some (.mu false (cupC m.2)), some (.val (.str (S t))), some (.val (.int i)), some (.val (.int q.1)), some (.val (.str (S m.1)))] :=
    ev_is (ev_sl (ev_var rfl) eo_none (eo_some (ev_var rfl)) (u_slS (len_sz (by omega)))) (by rw [cutS_pre])
  refine ex_guard (b := decide (q.1 = 0)) (eb_test (ev_op (ev_var rfl) ev_int r_eqI)) (fun z M => ?_) (fun z => ?_)
  · rw [if_pos (of_decide_eq_true z)]
    refine ex_ret (ev_op (ev_op hpre (ev_var rfl) (r_addS (hcut i).1)) (ev_is (y := .str (S (t.drop i))) (ev_sl (ev_var rfl) (eo_some (ev_var rfl)) eo_none (u_slS (len_sz (by omega)))) (by rw [cutS_suf])) (r_addS (hcut i).2)) ⟨by rw [S_app, S_app], 0, rfl⟩
  · rw [if_neg (of_decide_eq_false z)]
    refine ex_ret (x := .str (S (if q.1 < 3 then t.take i ++ m.1 ++ t.drop (i + 1) else t.take i))) (τ1 := [some (.mu false (cupC m.2)), some (.val (.str (S t))), some (.val (.int i)), some (.val (.int q.1)), some (.val (.str (S m.1)))]) (ev_if (b := decide (q.1 < 3)) (eb_test (ev_op (ev_var rfl) ev_int r_lt)) (fun z => ?_) (fun z => ?_)) ⟨rfl, 0, rfl⟩
    · rw [if_pos (of_decide_eq_true z)]
      refine ev_is (ev_op (ev_op hpre (ev_var rfl) (r_addS (hcut (i + 1)).1)) (ev_is (y := .str (S (t.drop (i + 1)))) (ev_sl (ev_var rfl) (eo_some (ev_op (ev_var rfl) ev_int r_add)) eo_none (u_slS (len_sz (by omega)))) (by rw [show (i : Int) + 1 = ((i + 1 : Nat) : Int) by omega, cutS_suf])) (r_addS (hcut (i + 1)).2)) (by rw [S_app, S_app])
    · rw [if_neg (of_decide_eq_false z)]
      exact hpre
end
end K10
end
section
set_option maxRecDepth 100000
set_option maxHeartbeats 4000000
namespace K10
open PySem PySem.Spec PyProof.Rows L2 TLy TL NumText
/-! steps, one by one -/
local macro_rules | `(tactic| walk_at "ev") => `(tactic| first
  | exact ev_var rfl
  | exact ev_int
  | exact ev_str
  | exact ev_bl
  | exact ev_non
  | exact ev_ty
  | exact ea_nil
  | exact eo_none
  | exact r_add
  | exact r_sub
  | exact r_lt
  | exact r_le
  | exact r_gt
  | exact r_ge
  | exact r_eqI
  | exact r_neI
  | exact r_eqS
  | exact r_neS
  | exact r_leS
  | exact r_inSign
  | exact r_isN
  | exact r_notN
  | exact u_neg
  | exact c_intI
  | exact c_abs
  | exact c_ord
  | exact c_lenT
  | exact c_lenL
  | exact c_all
  | exact Nat.le_of_ble_eq_true rfl
  | exact c_tupL
  | exact c_lstL
  | exact c_lstT
  | exact u_slT
  | exact u_slL
  | exact tg_name
  | exact tgs_nil
  | ((with_reducible refine' ev_lenM ?_) <;> rfl)
  | ((with_reducible refine' ev_op ?_ ?_ ?_) <;> try walk_at "ev")
  | ((with_reducible refine' ev_un ?_ ?_) <;> try walk_at "ev")
  | ((with_reducible refine' ea_cons ?_ ?_) <;> try walk_at "ev")
  | ((with_reducible refine' eo_some ?_) <;> try walk_at "ev")
  | ((with_reducible refine' ev_cb ?_ ?_) <;> try walk_at "ev")
  | ((with_reducible refine' ev_sl ?_ ?_ ?_ ?_) <;> try walk_at "ev")
  | ((with_reducible refine' ev_chain ?_ ?_ ?_ ?_ ?_) <;> try walk_at "ev")
  | ((with_reducible refine' eb_test ?_) <;> try walk_at "ev")
  | ((with_reducible refine' eb_B ?_) <;> try walk_at "ev")
  | ((with_reducible refine' eb_not ?_) <;> try walk_at "ev")
  | ((with_reducible refine' eb_andP ?_ ?_) <;> try walk_at "ev")
  | ((with_reducible refine' eb_orP ?_ ?_) <;> try walk_at "ev")
  | ((with_reducible refine' ev_andP ?_ ?_) <;> try walk_at "ev")
  | ((with_reducible refine' ev_orP ?_ ?_) <;> try walk_at "ev")
  | ((with_reducible refine' ev_notP ?_) <;> try walk_at "ev")
  | ((with_reducible refine' ev_tup ?_ ?_) <;> try walk_at "ev")
  | ((with_reducible refine' ev_lst ?_ ?_) <;> try walk_at "ev")
  | ((with_reducible refine' ev_call ?_ ?_) <;> first | assumption | walk_at "ev" | skip)
  | ((with_reducible refine' tg_tup ?_ ?_) <;> try walk_at "ev")
  | ((with_reducible refine' tgs_cons ?_ ?_) <;> try walk_at "ev")
  | (refine' r_mul ?_)
  | (refine' r_modN ?_)
  | (refine' r_fdivN ?_)
  | (refine' r_pow ?_)
  | (refine' r_addS ?_)
  | (refine' r_catT ?_)
  | (refine' r_catL ?_)
  | (refine' r_ixT ?_)
  | (refine' r_ixL ?_)
  | (refine' r_ixS ?_ ?_ <;> first | exact len_sz (by omega) | exact at_get _ _ (by assumption) | skip)
  | (refine' u_slS ?_ <;> first | exact len_sz (by omega) | skip)
  | (refine' c_lenS ?_ <;> first | exact len_sz (by omega) | skip)
  | (refine' c_strI ?_)
  | (refine' c_intS ?_ ?_)
  | with_reducible exact isi_NB
  | with_reducible exact isi_NI
  | with_reducible exact isi_NS
  | with_reducible exact isi_NT
  | with_reducible exact isi_NL
  | with_reducible exact isi_BB
  | with_reducible exact isi_BI
  | with_reducible exact isi_BS
  | with_reducible exact isi_BT
  | with_reducible exact isi_BL
  | with_reducible exact isi_IB
  | with_reducible exact isi_II
  | with_reducible exact isi_IS
  | with_reducible exact isi_IT
  | with_reducible exact isi_IL
  | with_reducible exact isi_SB
  | with_reducible exact isi_SI
  | with_reducible exact isi_SS
  | with_reducible exact isi_ST
  | with_reducible exact isi_SL
  | with_reducible exact isi_TB
  | with_reducible exact isi_TI
  | with_reducible exact isi_TS
  | with_reducible exact isi_TT
  | with_reducible exact isi_TL
  | with_reducible exact isi_LB
  | with_reducible exact isi_LI
  | with_reducible exact isi_LS
  | with_reducible exact isi_LT
  | with_reducible exact isi_LL
  | (refine' r_eqD ?_ ?_ ?_ ?_)
  | (refine' r_neD ?_ ?_ ?_ ?_)
  | (intro _h; walk_at "ev"))

theorem lawDig_all {t : List Nat} {i : Nat} (h : lawDig t i ≠ []) : AllDigits (lawDig t i) := by
  rw [(lawDig_is h).1]
  exact fun c q => dig_iff.mp (tw_all (t.drop i) dig c q)
theorem int_dig {t : List Nat} {i : Nat} (h : lawDig t i ≠ []) (hl : (lawDig t i).length ≤ 640) : PySem.intText? (S (lawDig t i)) = some ((digitsVal (lawDig t i) : Nat) : Int) :=
  intText_digits (lawDig_all h) h (by rw [S_len]; omega)
section
variable {P : Program} {w : World} {K : PySem.W.Frag} {mg : Str → Option Value} {base : Heap} {a : Nat → Addr} {d : Nat → FuncData}
def R_law_digits : List PV → PV → Prop := fun xs y => ∃ (t : List Nat) (i : Nat), xs = [.str (S t), .int i] ∧ t.length ≤ 100000 ∧ y = .str (S (lawDig t i))
theorem ok__law_digits (T : Txt K mg a d) : FnOk P w K mg base CX0 1 (a 33) (d 33) ["text", "at"] (spOf R_law_digits) := by
  refine ok_pure T._law_digits.F sc__law_digits (fun xs y h => by obtain ⟨t, i, rfl, _⟩ := h; rfl) (by decide) (fun cdv A outer s H E hr xs y h => ?_)
  obtain ⟨t, i, rfl, hl, rfl⟩ := h
  refine ⟨_, (pss_cons (ps_set (i := 2) sc__law_digits.nd rfl (by first | exact Or.inl rfl | exact Or.inr rfl) (pv 1))
      (pss_cons (ps_while PassesOwn.never (PW.pt (pw_and (pt_cmpR op_lt (pv 2) (pe_callB call_len (by rfl) T.n_len (by decide +kernel) (pa_cons (pv 0) pa_nil)) (nomark _)) (pw_and1 (pt_cmpR op_in_sign (pe_ix ix_str (pv 0) (pv 2) (fun _ _ => rfl)) pe_str (by rfl))))) (pss_one (ps_set (i := 2) sc__law_digits.nd rfl (by first | exact Or.inl rfl | exact Or.inr rfl) (pe_op op_add (pv 2) pe_int))))
      (pss_one (ps_ret (pe_ifExp (PW.pt (pw_or (pt_cmpR op_eq (pv 2) (pe_op op_add (pv 1) pe_int) (nomark _)) (pw_or1 (pt_cmpR op_ne (pe_slice sl_str (pv 0) (po_some (pv 1)) (po_some (pe_op op_add (pv 1) pe_int))) pe_str (nomark _))))) (pe_slice sl_str (pv 0) (po_some (pv 1)) (po_some (pv 2))) pe_str))))), ?_⟩
  show Exec E _ [some (.val (.str (S t))), some (.val (.int i)), none] _
  refine ex_seq1 (ex_set (x := .int i) (τ1 := [some (.val (.str (S t))), some (.val (.int i)), none]) (ev_var rfl) rfl) ?_
  show Exec E _ [some (.val (.str (S t))), some (.val (.int i)), some (.val (.int i))] _
  refine ex_seq (fun τ' => τ' = [some (.val (.str (S t))), some (.val (.int i)), some (.val (.int (dend t i)))]) (ex_while (fun m τ' => ∃ j : Nat, dend t j = dend t i ∧ τ' = [some (.val (.str (S t))), some (.val (.int i)), some (.val (.int j))] ∧ m = t.length - j) (t.length - i) ⟨i, rfl, rfl, rfl⟩ ?_) ?_
  · rintro m _ ⟨j, ej, rfl, rfl⟩
    cases h : t[j]? with
    | none =>
      have hj : t.length ≤ j := List.getElem?_eq_none_iff.mp h
      refine' ⟨false, _, eb_and (b := false) (eb_is ?h1 ?e1) (fun z => Bool.noConfusion z) (fun _ => ⟨rfl, rfl⟩), fun z => Bool.noConfusion z, fun _ => ?_⟩
      case h1 => walk_at "ev"
      case e1 => rw [S_len]; exact decide_eq_false (by omega)
      · show _ = _
        rw [← ej, dend_end hj]
    | some c =>
      have hj : j < t.length := (List.getElem?_eq_some_iff.mp h).1
      refine' ⟨dig c, _, eb_and (b := true) (eb_is ?h1 ?e1) (fun _ => eb_is ?h2 ?e2) (fun z => Bool.noConfusion z), fun z => ?_, fun z => ?_⟩
      case h1 => walk_at "ev"
      case e1 => rw [S_len]; exact decide_eq_true (by omega)
      case h2 => walk_at "ev"
      case e2 => exact dig_in c
      · refine ex_set (by walk_at "ev") ⟨t.length - (j + 1), by omega, j + 1, ?_, ?_, rfl⟩
        · rw [← ej, dend_step h z]
        · show _ = ([some (.val (.str (S t))), some (.val (.int i)), some (.val (.int ((j + 1 : Nat) : Int)))] : TEnv)
          rfl
      · show _ = _
        rw [← ej, dend_stop h z]
  · rintro τ' rfl
    obtain ⟨ds, hds⟩ : ∃ ds, ds = (t.drop i).takeWhile dig := ⟨_, rfl⟩
    have he : dend t i = i + ds.length := by rw [hds]; rfl
    have hL : lawDig t i = if ds.length = 1 ∨ t[i]? ≠ some 48 then ds else [] := by
      unfold lawDig
      simp only [← hds]
    have hsl : (t.drop i).take ds.length = ds := by rw [hds, take_tw]
    refine ex_ret (x := .str (S (lawDig t i))) (τ1 := [some (.val (.str (S t))), some (.val (.int i)), some (.val (.int (dend t i)))]) ?_ rfl
    refine' ev_if (b := decide (ds.length = 1) || !decide (t[i]? = some 48)) (eb_orP (eb_is ?ga ?ea) (fun _ => eb_is ?gb ?eb)) (fun z => ?_) (fun z => ?_)
    case ga => walk_at "ev"
    case ea =>
      rw [he, Bool.eq_iff_iff, decide_eq_true_eq, decide_eq_true_eq]
      omega
    case gb => walk_at "ev"
    case eb =>
      rw [cutS_sg]
      exact congrArg (!·) (q_sg 48 rfl)
    · refine' ev_is ?gc ?ec
      case gc => walk_at "ev"
      case ec =>
        rw [he, cutS_nat, Nat.add_sub_cancel_left, hsl, hL, if_pos]
        simpa using z
    · refine ev_is ev_str ?_
      rw [hL, if_neg]
      · rfl
      · simpa using z
/-! ### _law_read, _law_items -/
def optP : Option (PV × Nat) → PV
  | none => .non
  | some p => .tup [p.1, .int (p.2 : Nat)]
def okT (t : List Nat) : Prop := ∀ c ∈ t, c < 128
def R_law_read (n : Nat) : List PV → PV → Prop := fun xs y => ∃ (t : List Nat) (i : Nat), xs = [.str (S t), .int i, .int n] ∧ t.length ≤ 99999 ∧ okT t ∧ y = optP (rAt t n i)
def R_law_items (n : Nat) : List PV → PV → Prop := fun xs y => ∃ (t : List Nat) (i : Nat), xs = [.str (S t), .int i, .int n] ∧ t.length ≤ 99999 ∧ okT t ∧ y = optP (rItems (rAt t n) t i)
def R_prevIt : Nat → List PV → PV → Prop
  | 0 => fun _ _ => False
  | n + 1 => R_law_items n
theorem ok__law_items (T : Txt K mg a d) (n : Nat) (ih__law_read : FnOk P w K mg base CX0 (2 + 2 * n) (a 34) (d 34) ["text", "at", "deep"] (spOf (R_law_read n))) :
    FnOk P w K mg base CX0 (3 + 2 * n) (a 35) (d 35) ["text", "at", "deep"] (spOf (R_law_items n)) := by
  rw [show 3 + 2 * n = (2 + 2 * n) + 1 by omega]
  refine ok_pure T._law_items.F sc__law_items (fun xs y h => by obtain ⟨t, i, rfl, _⟩ := h; rfl) (by decide) (fun cdv A outer s H E hr xs y h => ?_)
  obtain ⟨t, i, rfl, hl, hk, rfl⟩ := h
  refine ⟨_, (pss_cons (ps_if (pt_cmpR op_eq (pe_slice sl_str (pv 0) (po_some (pv 1)) (po_some (pe_op op_add (pv 1) pe_int))) pe_str (nomark _)) (pss_one (ps_ret (pe_tup (pa_cons (pe_tup pa_nil) (pa_cons (pe_op op_add (pv 1) pe_int) pa_nil))))) pss_nil)
      (pss_cons (ps_set (i := 3) sc__law_items.nd rfl (by first | exact Or.inl rfl | exact Or.inr rfl) (pe_tup pa_nil))
      (pss_cons (ps_for PassesOwn.never rfl (pi_range1 (by rfl) T.n_range (pa_cons (pe_callB call_len (by rfl) T.n_len (by decide +kernel) (pa_cons (pv 0) pa_nil)) pa_nil)) (pg_name (i := 4) sc__law_items.nd rfl (by first | exact Or.inl rfl | exact Or.inr rfl)) (pss_cons (ps_set (i := 5) sc__law_items.nd rfl (by first | exact Or.inl rfl | exact Or.inr rfl) (pe_call ih__law_read (hr.mono (by first | decide | omega)) (by rfl) T._law_read.g T._law_read.F.kp T._law_read.b .nil pass0 (pa_cons (pv 0) (pa_cons (pv 1) (pa_cons (pv 2) pa_nil)))))
      (pss_cons (ps_if (pt_cmpR op_isN (pv 5) pe_non (nomark _)) (pss_one (ps_ret pe_non)) pss_nil)
      (pss_cons (ps_par (i := 3) (j := 1) (by rfl) sc__law_items.nd rfl rfl (by decide) rfl rfl (pa_cons (pe_op op_catA (pv 3) (pe_tup (pa_cons (pe_ix ix_tup (pv 5) pe_int (fun _ _ => rfl)) pa_nil))) (pa_cons (pe_op op_add (pe_ix ix_tup (pv 5) pe_int (fun _ _ => rfl)) pe_int) pa_nil)) (by rfl))
      (pss_cons (ps_if (pt_cmpR op_eq (pe_slice sl_str (pv 0) (po_some (pe_ix ix_tup (pv 5) pe_int (fun _ _ => rfl))) (po_some (pv 1))) pe_str (nomark _)) (pss_one (ps_ret (pe_tup (pa_cons (pv 3) (pa_cons (pv 1) pa_nil))))) pss_nil)
      (pss_one (ps_if (pt_cmpR op_ne (pe_slice sl_str (pv 0) (po_some (pe_ix ix_tup (pv 5) pe_int (fun _ _ => rfl))) (po_some (pv 1))) pe_str (nomark _)) (pss_one (ps_ret pe_non)) pss_nil)))))))
      (pss_one (ps_ret pe_non))))), ?_⟩
  show Exec E _ [some (.val (.str (S t))), some (.val (.int i)), some (.val (.int n)), none, none, none] _
  refine' ex_guard (b := decide (t[i]? = some 62)) (eb_is ?gh ?ge) (fun z M => ?_) (fun z => ?_)
  case gh => walk_at "ev"
  case ge => rw [cutS_sg]; exact q_sg 62 rfl
  · refine' ex_ret (x := .tup [.tup [], .int ((i : Int) + 1)]) ?gh ?_
    case gh => walk_at "ev"
    · show _ = optP (rItems _ _ _)
      unfold rItems
      rw [if_pos (of_decide_eq_true z)]
      rfl
  have hI : rItems (rAt t n) t i = rLoop (rAt t n) t t.length i [] := if_neg (of_decide_eq_false z)
  rw [hI]
  refine ex_seq1 (ex_set (x := .tup []) (τ1 := [some (.val (.str (S t))), some (.val (.int i)), some (.val (.int n)), none, none, none]) (by walk_at "ev") rfl) ?_
  refine ex_seq (fun τ' => rLoop (rAt t n) t t.length i [] = none) (ex_for (τ1 := [some (.val (.str (S t))), some (.val (.int i)), some (.val (.int n)), some (.val (.tup [])), none, none])
    (fun k τ' => k ≤ t.length ∧ ∃ (j : Nat) (acc : List PV) (s4 s5 : Option Sl), τ' = [some (.val (.str (S t))), some (.val (.int j)), some (.val (.int n)), some (.val (.tup acc)), s4, s5] ∧ acc.length = k ∧ rLoop (rAt t n) t t.length i [] = rLoop (rAt t n) t (t.length - k) j acc) (it_range1 (n := t.length) ?_ (by omega) (by omega)) ⟨by omega, i, [], none, none, rfl, rfl, rfl⟩ ?_ ?_) ?_
  · refine ea_cons (ev_is (x := .int (S t).length) (ev_cb (ea_cons (ev_var rfl) ea_nil) (c_lenS (len_sz (by omega)))) (by rw [S_len])) ea_nil
  · rintro k x _ hx ⟨hk1, j, acc, s4, s5, rfl, hacc, hF⟩
    have hkl : k < t.length := by
      have := (List.getElem?_eq_some_iff.mp hx).1
      unfold rangeP at this
      rw [List.length_map, List.length_range] at this
      omega
    have hF : rLoop (rAt t n) t t.length i [] = rLoop (rAt t n) t ((t.length - (k + 1)) + 1) j acc := by rw [hF]; congr 1; omega
    refine ⟨_, tg_name, ?_⟩
    show Exec E _ [some (.val (.str (S t))), some (.val (.int j)), some (.val (.int n)), some (.val (.tup acc)), some (.val x), s5] _
    refine ex_seq1 (ex_set (x := optP (rAt t n j)) (τ1 := [some (.val (.str (S t))), some (.val (.int j)), some (.val (.int n)), some (.val (.tup acc)), some (.val x), s5]) (ev_call (ea_cons (ev_var rfl) (ea_cons (ev_var rfl) (ea_cons (ev_var rfl) ea_nil))) (spP ⟨t, j, rfl, hl, hk, rfl⟩)) rfl) ?_
    show Exec E _ [some (.val (.str (S t))), some (.val (.int j)), some (.val (.int n)), some (.val (.tup acc)), some (.val x), some (.val (optP (rAt t n j)))] _
    cases hr : rAt t n j with
    | none =>
      have hF : rLoop (rAt t n) t t.length i [] = none := by
        rw [hF]
        show (match rAt t n j with | none => none | some (x, j) => if t[j]? = some 44 then rLoop (rAt t n) t _ (j + 1) (acc ++ [x]) else if t[j]? = some 62 then some (.tup (acc ++ [x]), j + 1) else none) = none
        rw [hr]
      refine' ex_gT ?gh fun M => ?_
      case gh => exact eb_test (ev_op (ev_var rfl) ev_non r_isN)
      exact ex_ret ev_non (by show _ = optP _; rw [hF]; rfl)
    | some p =>
      obtain ⟨v, e⟩ := p
      have hF : rLoop (rAt t n) t t.length i [] = if t[e]? = some 44 then rLoop (rAt t n) t (t.length - (k + 1)) (e + 1) (acc ++ [v]) else if t[e]? = some 62 then some (.tup (acc ++ [v]), e + 1) else none := by
        rw [hF]
        show (match rAt t n j with | none => none | some (x, j) => if t[j]? = some 44 then rLoop (rAt t n) t _ (j + 1) (acc ++ [x]) else if t[j]? = some 62 then some (.tup (acc ++ [x]), j + 1) else none) = _
        rw [hr]
      refine' ex_gF ?gh ?_
      case gh => exact eb_test (ev_op (ev_var rfl) ev_non r_isN)
      refine' ex_seq1 (ex_par (x := .tup (acc ++ [v])) (y := .int ((e + 1 : Nat) : Int)) (τ1 := [some (.val (.str (S t))), some (.val (.int j)), some (.val (.int n)), some (.val (.tup acc)), some (.val x), some (.val (.tup [v, .int (e : Nat)]))]) (ea_cons ?ga (ea_cons ?gb ea_nil)) rfl) ?_
      case ga => exact ev_op (ev_var rfl) (ev_tup (ea_cons (ev_op (ev_var rfl) ev_int (r_ixT (atI_nat (j := 0) rfl))) ea_nil) (Nat.le_of_ble_eq_true rfl)) (r_catT (by rw [hacc]; exact small (by show k + 1 ≤ _; omega)))
      case gb => exact ev_op (ev_op (ev_var rfl) ev_int (r_ixT (atI_nat (j := 1) rfl))) ev_int r_add
      show Exec E _ [some (.val (.str (S t))), some (.val (.int ((e + 1 : Nat) : Int))), some (.val (.int n)), some (.val (.tup (acc ++ [v]))), some (.val x), some (.val (.tup [v, .int (e : Nat)]))] _
      have hsl : EvR (tSl rSlS (tVar 0) (tPart (tOp (rIxT K) (tVar 5) (tC (.int 1)))) (tPart (tVar 1))) [some (.val (.str (S t))), some (.val (.int ((e + 1 : Nat) : Int))), some (.val (.int n)), some (.val (.tup (acc ++ [v]))), some (.val x), some (.val (.tup [v, .int (e : Nat)]))] (.str (S (sg t e))) [some (.val (.str (S t))), some (.val (.int ((e + 1 : Nat) : Int))), some (.val (.int n)), some (.val (.tup (acc ++ [v]))), some (.val x), some (.val (.tup [v, .int (e : Nat)]))] := by
        refine ev_is (ev_sl (ev_var rfl) (eo_some (ev_op (ev_var rfl) ev_int (r_ixT (atI_nat (j := 1) rfl)))) (eo_some (ev_var rfl)) (u_slS (len_sz (by omega)))) ?_
        rw [show ((e + 1 : Nat) : Int) = (e : Int) + 1 by omega, cutS_sg]
      refine' ex_guard (b := decide (t[e]? = some 62)) (eb_is (eb_test (ev_op hsl ev_str r_eqS)) (q_sg 62 rfl)) (fun z M => ?_) (fun z => ?_)
      · refine ex_ret (ev_tup (ea_cons (ev_var rfl) (ea_cons (ev_var rfl) ea_nil)) (Nat.le_of_ble_eq_true rfl)) ?_
        show _ = optP _
        have h62 := of_decide_eq_true z
        rw [hF, if_neg (by rw [h62]; decide), if_pos h62]
        rfl
      rw [if_neg (of_decide_eq_false z)] at hF
      refine ex_if (b := !decide (t[e]? = some 44)) (eb_is (eb_test (ev_op hsl ev_str r_neS)) (congrArg (!·) (q_sg 44 rfl))) (fun z => ?_) (fun z => ?_)
      · refine ex_ret ev_non ?_
        show _ = optP _
        rw [hF, if_neg (by simpa using z)]
        rfl
      · rw [if_pos (by simpa using z)] at hF
        refine ex_next ⟨by omega, e + 1, acc ++ [v], _, _, rfl, by rw [List.length_append, hacc]; rfl, hF⟩
  · rintro τ' ⟨_, j, acc, s4, s5, rfl, hacc, hF⟩
    show rLoop _ _ _ _ _ = none
    rw [hF]
    unfold rangeP
    rw [List.length_map, List.length_range, Int.toNat_natCast, Nat.sub_self]
    rfl
  · intro τ' hF
    refine ex_ret ev_non ?_
    show _ = optP _
    rw [hF]
    rfl
theorem c1_eq {c : Nat} : (⟨#[c]⟩ : Str) = S [c] := rfl
theorem okc_eq (c : Nat) : (!decide ((⟨#[c]⟩ : Str) = Str.ofString "\n") && !((!decide ((⟨#[c]⟩ : Str).cps.toList < (Str.ofString " ").cps.toList)) && (!decide ((Str.ofString "~").cps.toList < (⟨#[c]⟩ : Str).cps.toList)))) = !okc c := by
  have h1 : decide ((⟨#[c]⟩ : Str) = Str.ofString "\n") = decide (c = 10) := by
    rw [c1_eq]
    exact (q_S (m := [10]) rfl).trans (by simp)
  have h2 : decide ((⟨#[c]⟩ : Str).cps.toList < (Str.ofString " ").cps.toList) = decide (c < 32) := lt1 c 32
  have h3 : decide ((Str.ofString "~").cps.toList < (⟨#[c]⟩ : Str).cps.toList) = decide (126 < c) := lt1 126 c
  rw [h1, h2, h3]
  unfold okc
  by_cases a : c = 10
  · subst a; rfl
  · by_cases b : c < 32
    · simp [a, b] <;> omega
    · by_cases e : 126 < c
      · simp [a, b, e] <;> omega
      · simp [a, b, e] <;> omega
theorem ok__law_read1 (T : Txt K mg a d) (n : Nat) (ih__law_items : FnOk P w K mg base CX0 (1 + 2 * n) (a 35) (d 35) ["text", "at", "deep"] (spOf (R_prevIt n))) :
    FnOk P w K mg base CX0 (2 + 2 * n) (a 34) (d 34) ["text", "at", "deep"] (spOf (R_law_read n)) := by
  rw [show 2 + 2 * n = (1 + 2 * n) + 1 by omega]
  refine ok_pure T._law_read.F sc__law_read (fun xs y h => by obtain ⟨t, i, rfl, _⟩ := h; rfl) (by decide) (fun cdv A outer s H E hr xs y h => ?_)
  obtain ⟨t, i, rfl, hl, hk, rfl⟩ := h
  refine ⟨_, (pss_cons (ps_set (i := 3) sc__law_read.nd rfl (by first | exact Or.inl rfl | exact Or.inr rfl) (pe_slice sl_str (pv 0) (po_some (pv 1)) (po_some (pe_op op_add (pv 1) pe_int))))
      (pss_cons (ps_if (pt_cmpR op_eq (pv 3) pe_str (nomark _)) (pss_one (ps_ret (pe_tup (pa_cons pe_non (pa_cons (pe_op op_add (pv 1) pe_int) pa_nil))))) pss_nil)
      (pss_cons (ps_if (pt_cmpR op_eq (pv 3) pe_str (nomark _)) (pss_cons (ps_set (i := 4) sc__law_read.nd rfl (by first | exact Or.inl rfl | exact Or.inr rfl) (pe_call (ok__law_digits T) (hr.mono (by first | decide | omega)) (by rfl) T._law_digits.g T._law_digits.F.kp T._law_digits.b .nil pass0 (pa_cons (pv 0) (pa_cons (pe_op op_add (pv 1) pe_int) pa_nil))))
      (pss_cons (ps_set (i := 5) sc__law_read.nd rfl (by first | exact Or.inl rfl | exact Or.inr rfl) (pe_op op_add (pe_op op_add (pv 1) pe_int) (pe_callB call_len (by rfl) T.n_len (by decide +kernel) (pa_cons (pv 4) pa_nil))))
      (pss_cons (ps_if (PW.pt (pw_or (pt_cmpR op_eq (pv 4) pe_str (nomark _)) (pw_or (pt_cmpR op_gt (pe_callB call_len (by rfl) T.n_len (by decide +kernel) (pa_cons (pv 4) pa_nil)) pe_int (nomark _)) (pw_or1 (pt_cmpR op_ne (pe_slice sl_str (pv 0) (po_some (pe_op op_sub (pv 5) pe_int)) (po_some (pv 5))) pe_str (nomark _)))))) (pss_one (ps_ret pe_non)) pss_nil)
      (pss_cons (ps_set (i := 6) sc__law_read.nd rfl (by first | exact Or.inl rfl | exact Or.inr rfl) (pe_slice sl_str (pv 0) (po_some (pv 5)) (po_some (pe_op op_add (pv 5) (pe_callTy call_int_str (by rfl) T.n_int (by decide +kernel) (pa_cons (pv 4) pa_nil))))))
      (pss_cons (ps_set (i := 7) sc__law_read.nd rfl (by first | exact Or.inl rfl | exact Or.inr rfl) (pe_and (pe_cmpR op_eq (pe_callB call_len (by rfl) T.n_len (by decide +kernel) (pa_cons (pv 6) pa_nil)) (pe_callTy call_int_str (by rfl) T.n_int (by decide +kernel) (pa_cons (pv 4) pa_nil)) (nomark _)) (pe_one (pe_cmpR op_lt (pe_callTy call_int_str (by rfl) T.n_int (by decide +kernel) (pa_cons (pv 4) pa_nil)) pe_int (nomark _)))))
      (pss_cons (ps_setLc (i := 8) (own := [("one", 9)]) (g := gName 9) (by rfl) sc__law_read.nd rfl rfl (sw_true rfl rfl rfl (by decide +kernel)) (pi_str (pv 6)) (blkOk_by (own := [("one", 9)]) (N := N__law_read) (sc := defScope s__law_read) (by decide +kernel)) (fun _ _ _ _ _ => (pg_name (i := 9) sc__law_read.nd rfl (by first | exact Or.inl rfl | exact Or.inr rfl))) (fun _ _ _ _ _ => (pts_one (PW.pt (pw_and (pt_cmpR op_ne (pv 9) pe_str (nomark _)) (pw_and1 (pt_not (pt_chain op_le_str op_le_str pe_str (pv 9) pe_str))))))) (fun _ _ _ _ _ => (pv 9)))
      (pss_one (ps_ret (pe_ifExp (PW.pt (pw_and (pt_val (pv 7)) (pw_and1 (pt_cmpR (op_eqD hr.units) (pv 8) (pe_lst pa_nil) (nomark _))))) (pe_tup (pa_cons (pv 6) (pa_cons (pe_op op_add (pv 5) (pe_callTy call_int_str (by rfl) T.n_int (by decide +kernel) (pa_cons (pv 4) pa_nil))) pa_nil))) pe_non))))))))) pss_nil)
      (pss_cons (ps_if (pt_cmpR op_eq (pv 3) pe_str (nomark _)) (pss_one (ps_ret (pe_ifExp (pt_cmpR op_gt (pv 2) pe_int (nomark _)) (pe_call ih__law_items (hr.mono (by first | decide | omega)) (by rfl) T._law_items.g T._law_items.F.kp T._law_items.b .nil pass0 (pa_cons (pv 0) (pa_cons (pe_op op_add (pv 1) pe_int) (pa_cons (pe_op op_sub (pv 2) pe_int) pa_nil)))) pe_non))) pss_nil)
      (pss_cons (ps_set (i := 4) sc__law_read.nd rfl (by first | exact Or.inl rfl | exact Or.inr rfl) (pe_call (ok__law_digits T) (hr.mono (by first | decide | omega)) (by rfl) T._law_digits.g T._law_digits.F.kp T._law_digits.b .nil pass0 (pa_cons (pv 0) (pa_cons (pe_ifExp (pt_cmpR op_eq (pv 3) pe_str (nomark _)) (pe_op op_add (pv 1) pe_int) (pv 1)) pa_nil))))
      (pss_cons (ps_if (PW.pt (pw_or (pt_cmpR op_eq (pv 4) pe_str (nomark _)) (pw_or (pt_cmpR op_gt (pe_callB call_len (by rfl) T.n_len (by decide +kernel) (pa_cons (pv 4) pa_nil)) pe_int (nomark _)) (pw_or1 (PW.pt (pw_and (pt_cmpR op_eq (pv 3) pe_str (nomark _)) (pw_and1 (pt_cmpR op_eq (pv 4) pe_str (nomark _))))))))) (pss_one (ps_ret pe_non)) pss_nil)
      (pss_one (ps_ret (pe_ifExp (pt_cmpR op_eq (pv 3) pe_str (nomark _)) (pe_tup (pa_cons (pe_un un_neg (pe_callTy call_int_str (by rfl) T.n_int (by decide +kernel) (pa_cons (pv 4) pa_nil))) (pa_cons (pe_op op_add (pe_op op_add (pv 1) pe_int) (pe_callB call_len (by rfl) T.n_len (by decide +kernel) (pa_cons (pv 4) pa_nil))) pa_nil))) (pe_tup (pa_cons (pe_callTy call_int_str (by rfl) T.n_int (by decide +kernel) (pa_cons (pv 4) pa_nil)) (pa_cons (pe_op op_add (pv 1) (pe_callB call_len (by rfl) T.n_len (by decide +kernel) (pa_cons (pv 4) pa_nil))) pa_nil)))))))))))), ?_⟩
  show Exec E _ [some (.val (.str (S t))), some (.val (.int i)), some (.val (.int n)), none, none, none, none, none, none, none] _
  refine' ex_seq1 (ex_set (x := .str (S (sg t i))) (τ1 := [some (.val (.str (S t))), some (.val (.int i)), some (.val (.int n)), none, none, none, none, none, none, none]) (ev_is ?gh ?ge) rfl) ?_
  case gh => walk_at "ev"
  case ge => rw [cutS_sg]
  show Exec E _ [some (.val (.str (S t))), some (.val (.int i)), some (.val (.int n)), some (.val (.str (S (sg t i)))), none, none, none, none, none, none] _
  obtain ⟨tup, htup⟩ : ∃ tup, rAt t n = rNode t tup ∧ tup i = (match n with | 0 => none | m + 1 => rItems (rAt t m) t (i + 1)) := by
    cases n with
    | zero => exact ⟨fun _ => none, rfl, rfl⟩
    | succ m => exact ⟨_, rfl, rfl⟩
  have hnode : rAt t n i = if t[i]? = some 63 then some (.non, i + 1) else if t[i]? = some 61 then (rStr t i).map fun p => (.str (S p.1), p.2) else if t[i]? = some 60 then tup i else (rNum t i).map fun p => (.int p.1, p.2) := by rw [htup.1]; rfl
  refine' ex_guard (b := decide (t[i]? = some 63)) (eb_is ?gh ?ge) (fun z M => ?_) (fun z => ?_)
  case gh => walk_at "ev"
  case ge => exact q_sg 63 rfl
  · refine' ex_ret (x := .tup [.non, .int ((i : Int) + 1)]) ?gh ?_
    case gh => walk_at "ev"
    · show _ = optP _
      rw [hnode, if_pos (of_decide_eq_true z)]
      rfl
  rw [if_neg (of_decide_eq_false z)] at hnode
  refine' ex_guard (b := decide (t[i]? = some 61)) (eb_is ?gh ?ge) (fun z M => ?_) (fun z => ?_)
  case gh => walk_at "ev"
  case ge => exact q_sg 61 rfl
  · rw [if_pos (of_decide_eq_true z)] at hnode
    obtain ⟨ds, hds⟩ : ∃ ds, ds = lawDig t (i + 1) := ⟨_, rfl⟩
    obtain ⟨b, hb⟩ : ∃ b, b = i + 2 + ds.length := ⟨_, rfl⟩
    obtain ⟨m, hm⟩ : ∃ m, m = digitsVal ds := ⟨_, rfl⟩
    have hS : rStr t i = if ds = [] ∨ 4 < ds.length ∨ t[b - 1]? ≠ some 58 then none else if ((t.drop b).take m).length = m ∧ m < 2001 ∧ ((t.drop b).take m).all okc = true then some ((t.drop b).take m, b + m) else none := by
      unfold rStr
      simp only [← hds, ← hb, ← hm]
    refine ex_seq1 (ex_set (x := .str (S ds)) (τ1 := [some (.val (.str (S t))), some (.val (.int i)), some (.val (.int n)), some (.val (.str (S (sg t i)))), none, none, none, none, none, none]) (ev_call (ea_cons (ev_var rfl) (ea_cons (ev_is (x := .int ((i : Int) + 1)) (by walk_at "ev") rfl) ea_nil)) (spP ⟨t, i + 1, rfl, by omega, by rw [hds]⟩)) rfl) ?_
    have hdl : ds.length ≤ t.length := by
      rw [hds]
      unfold lawDig
      simp only
      split
      · exact Nat.le_trans (List.takeWhile_sublist _).length_le (by rw [List.length_drop]; omega)
      · exact Nat.zero_le _
    refine ex_seq1 (ex_set (x := .int b) (τ1 := [some (.val (.str (S t))), some (.val (.int i)), some (.val (.int n)), some (.val (.str (S (sg t i)))), some (.val (.str (S ds))), none, none, none, none, none]) (ev_is (ev_op (ev_op (ev_var rfl) ev_int r_add) (ev_cb (ea_cons (ev_var rfl) ea_nil) (c_lenS (len_sz (by omega)))) r_add) (by rw [S_len, hb]; congr 1)) rfl) ?_
    show Exec E _ [some (.val (.str (S t))), some (.val (.int i)), some (.val (.int n)), some (.val (.str (S (sg t i)))), some (.val (.str (S ds))), some (.val (.int b)), none, none, none, none] _
    refine' ex_guard (b := decide (ds = []) || (decide (4 < ds.length) || !decide (t[b - 1]? = some 58))) ?ht (fun z M => ?_) (fun z => ?_)
    case ht =>
      refine eb_orP (eb_is (eb_test (ev_op (ev_var rfl) ev_str r_eqS)) (q_S rfl)) fun _ => eb_orP (eb_is (eb_test (ev_op (ev_cb (ea_cons (ev_var rfl) ea_nil) (c_lenS (len_sz (by omega)))) ev_int r_gt)) ?_) fun _ => eb_is (eb_test (ev_op (ev_sl (ev_var rfl) (eo_some (ev_op (ev_var rfl) ev_int r_sub)) (eo_some (ev_var rfl)) (u_slS (len_sz (by omega)))) ev_str r_neS)) ?_
      · rw [S_len, Bool.eq_iff_iff, decide_eq_true_eq, decide_eq_true_eq]
        omega
      · rw [show (b : Int) - 1 = ((b - 1 : Nat) : Int) by omega, show (b : Int) = ((b - 1 : Nat) : Int) + 1 by omega, cutS_sg]
        exact congrArg (!·) (q_sg 58 rfl)
    · refine ex_ret ev_non ?_
      show _ = optP _
      rw [hnode, hS, if_pos (by simpa using z)]
      rfl
    have hc : ¬ (ds = [] ∨ 4 < ds.length ∨ t[b - 1]? ≠ some 58) := fun q => by
      have : (decide (ds = []) || (decide (4 < ds.length) || !decide (t[b - 1]? = some 58))) = true := by simpa using q
      rw [z] at this
      cases this
    rw [if_neg hc] at hS
    have h0 : ds ≠ [] := fun q => hc (.inl q)
    have hd4 : ds.length ≤ 4 := by omega
    have hint : ∀ {τ : TEnv}, τ[4]? = some (some (.val (.str (S ds)))) → EvR (tCB (fun xs H Q => ∃ a n, xs = [.str a] ∧ PySem.intText? a = some n ∧ a.length ≤ 640 ∧ Q (.int n) H) (tCons (tVar 4) tNil)) τ (.int m) τ := fun {τ} e =>
      ev_cb (ea_cons (ev_var e) ea_nil) (c_intS (by rw [hm, hds]; exact int_dig (by rw [← hds]; exact h0) (by rw [← hds]; omega)) (by rw [S_len]; omega))
    obtain ⟨own, hown⟩ : ∃ own, own = (t.drop b).take m := ⟨_, rfl⟩
    rw [← hown] at hS
    have hol : own.length ≤ t.length := by
      rw [hown, List.length_take, List.length_drop]
      omega
    refine ex_seq1 (ex_set (x := .str (S own)) (τ1 := [some (.val (.str (S t))), some (.val (.int i)), some (.val (.int n)), some (.val (.str (S (sg t i)))), some (.val (.str (S ds))), some (.val (.int b)), none, none, none, none]) (ev_is (ev_sl (ev_var rfl) (eo_some (ev_var rfl)) (eo_some (ev_op (ev_var rfl) (hint rfl) r_add)) (u_slS (len_sz (by omega)))) ?_) rfl) ?_
    · rw [show (b : Int) + (m : Int) = ((b + m : Nat) : Int) by omega, cutS_nat, Nat.add_sub_cancel_left, hown]
    refine ex_seq1 (ex_set (x := .bl (decide (own.length = m) && decide (m < 2001))) (τ1 := [some (.val (.str (S t))), some (.val (.int i)), some (.val (.int n)), some (.val (.str (S (sg t i)))), some (.val (.str (S ds))), some (.val (.int b)), some (.val (.str (S own))), none, none, none]) (ev_andP (ev_is (ev_op (ev_cb (ea_cons (ev_var rfl) ea_nil) (c_lenS (len_sz (by omega)))) (hint rfl) r_eqI) ?_) fun _ => ev_is (ev_op (hint rfl) ev_int r_lt) ?_) rfl) ?_
    · rw [S_len]
      congr 1
      rw [Bool.eq_iff_iff, decide_eq_true_eq, decide_eq_true_eq]
      omega
    · congr 1
      rw [Bool.eq_iff_iff, decide_eq_true_eq, decide_eq_true_eq]
      omega
    refine ex_seq1 (ex_set (x := .lst ((own.filter fun c => !okc c).map fun c => .str ⟨#[c]⟩)) (τ1 := [some (.val (.str (S t))), some (.val (.int i)), some (.val (.int n)), some (.val (.str (S (sg t i)))), some (.val (.str (S ds))), some (.val (.int b)), some (.val (.str (S own))), some (.val (.bl (decide (own.length = m) && decide (m < 2001)))), none, none])
      (ev_new (en_lc1T own (fun c => .str ⟨#[c]⟩) (fun c => .str ⟨#[c]⟩) (fun c => !okc c) (show ItR _ _ (own.map fun c => PV.str ⟨#[c]⟩) _ from it_str (z := S own) (ev_var rfl)) (fun o c h => by cases h) (by omega) (fun c hc => ?_) (fun c hc _ => ev_var rfl))) rfl) ?_
    · refine eb_is (eb_andP (eb_test (ev_op (ev_var rfl) ev_str r_neS)) fun _ => eb_not (eb_B (ev_chain ev_str (ev_var rfl) ev_str r_leS fun _ => r_leS))) (okc_eq c)
    refine ex_ret (x := if (own.length = m ∧ m < 2001 ∧ own.all okc = true) then .tup [.str (S own), .int ((b + m : Nat) : Int)] else .non) (τ1 := [some (.val (.str (S t))), some (.val (.int i)), some (.val (.int n)), some (.val (.str (S (sg t i)))), some (.val (.str (S ds))), some (.val (.int b)), some (.val (.str (S own))), some (.val (.bl (decide (own.length = m) && decide (m < 2001)))), some (.val (.lst ((own.filter fun c => !okc c).map fun c => .str ⟨#[c]⟩))), none]) ?_ ?_
    · refine' ev_if (b := (decide (own.length = m) && decide (m < 2001)) && decide (((own.filter fun c => !okc c).map fun c => PV.str ⟨#[c]⟩) = [])) (eb_andP (eb_B (ev_var rfl)) fun _ => eb_test (ev_op (ev_var rfl) (ev_new (en_lst ea_nil (by decide))) (r_eqNil fun x hx => ?ga))) (fun z => ?gb) (fun z => ?gc)
      case ga =>
        obtain ⟨c, hc, rfl⟩ := List.mem_map.mp hx
        have hc := (List.mem_filter.mp hc).1
        have : c < 128 := hk c (by rw [hown] at hc; exact List.mem_of_mem_drop (List.mem_of_mem_take hc))
        show PyData.strOk _ = true
        unfold PyData.strOk
        simp
        omega
      case gb =>
        simp only [Bool.and_eq_true, decide_eq_true_eq, List.map_eq_nil_iff, List.filter_eq_nil_iff, Bool.not_eq_true', Bool.not_eq_false'] at z
        rw [if_pos ⟨z.1.1, z.1.2, by rw [List.all_eq_true]; intro c hc; have := z.2 c hc; simpa using this⟩]
        refine ev_tup (ea_cons (ev_var rfl) (ea_cons (ev_is (ev_op (ev_var rfl) (hint rfl) r_add) (by congr 1)) ea_nil)) (Nat.le_of_ble_eq_true rfl)
      case gc =>
        rw [if_neg]
        · exact ev_non
        · intro ⟨q1, q2, q3⟩
          rw [List.all_eq_true] at q3
          have : ((decide (own.length = m) && decide (m < 2001)) && decide (((own.filter fun c => !okc c).map fun c => PV.str ⟨#[c]⟩) = [])) = true := by
            simp only [Bool.and_eq_true, decide_eq_true_eq, List.map_eq_nil_iff, List.filter_eq_nil_iff]
            exact ⟨⟨q1, q2⟩, fun c hc => by rw [q3 c hc]; decide⟩
          rw [z] at this
          cases this
    · show _ = optP _
      rw [hnode, hS]
      split <;> rfl
  rw [if_neg (of_decide_eq_false z)] at hnode
  refine' ex_guard (b := decide (t[i]? = some 60)) (eb_is ?gh ?ge) (fun z M => ?_) (fun z => ?_)
  case gh => walk_at "ev"
  case ge => exact q_sg 60 rfl
  · rw [if_pos (of_decide_eq_true z), htup.2] at hnode
    refine ex_ret (x := optP (rAt t n i)) (τ1 := [some (.val (.str (S t))), some (.val (.int i)), some (.val (.int n)), some (.val (.str (S (sg t i)))), none, none, none, none, none, none]) ?_ rfl
    refine ev_if (b := decide ((0 : Int) < (n : Int))) (τ1 := [some (.val (.str (S t))), some (.val (.int i)), some (.val (.int n)), some (.val (.str (S (sg t i)))), none, none, none, none, none, none]) (eb_test (ev_op (ev_var rfl) ev_int r_gt)) (fun z => ?_) (fun z => ?_)
    · obtain ⟨m, rfl⟩ : ∃ m, n = m + 1 := by
        cases n with
        | zero => simp at z
        | succ m => exact ⟨m, rfl⟩
      refine ev_call (ea_cons (ev_var rfl) (ea_cons (ev_is (x := .int ((i : Int) + 1)) (ev_op (ev_var rfl) ev_int r_add) rfl) (ea_cons (ev_is (x := .int (((m + 1 : Nat) : Int) - 1)) (ev_op (ev_var rfl) ev_int r_sub) (by congr 1; omega)) ea_nil))) (spP ⟨t, i + 1, rfl, hl, hk, by rw [hnode]⟩)
    · have : n = 0 := by
        have := of_decide_eq_false z
        omega
      subst this
      rw [hnode]
      exact ev_non
  rw [if_neg (of_decide_eq_false z)] at hnode
  obtain ⟨b, hb⟩ : ∃ b : Nat, b = if t[i]? = some 45 then i + 1 else i := ⟨_, rfl⟩
  obtain ⟨ds, hds⟩ : ∃ ds, ds = lawDig t b := ⟨_, rfl⟩
  have hN : rNum t i = if ds = [] ∨ 200 < ds.length ∨ (t[i]? = some 45 ∧ ds = [48]) then none else some (if t[i]? = some 45 then -((digitsVal ds : Nat) : Int) else ((digitsVal ds : Nat) : Int), b + ds.length) := by
    unfold rNum
    simp only [← hb, ← hds]
  have hdl : ds.length ≤ t.length := by
    rw [hds]
    unfold lawDig
    simp only
    split
    · exact Nat.le_trans (List.takeWhile_sublist _).length_le (by rw [List.length_drop]; omega)
    · exact Nat.zero_le _
  have hmk : ∀ {τ : TEnv}, τ[3]? = some (some (.val (.str (S (sg t i))))) → EvB (tTest (tOp rEq (tVar 3) (tC (.str "-")))) τ (decide (t[i]? = some 45)) τ := fun {τ} e => eb_is (eb_test (ev_op (ev_var e) ev_str r_eqS)) (q_sg 45 rfl)
  refine ex_seq1 (ex_set (x := .str (S ds)) (τ1 := [some (.val (.str (S t))), some (.val (.int i)), some (.val (.int n)), some (.val (.str (S (sg t i)))), none, none, none, none, none, none]) (ev_call (ea_cons (ev_var rfl) (ea_cons (x := .int b) ?_ ea_nil)) (spP ⟨t, b, rfl, by omega, by rw [hds]⟩)) rfl) ?_
  · refine ev_if (hmk rfl) (fun z => ?_) (fun z => ?_)
    · rw [hb, if_pos (of_decide_eq_true z)]
      exact ev_is (x := .int ((i : Int) + 1)) (ev_op (ev_var rfl) ev_int r_add) rfl
    · rw [hb, if_neg (of_decide_eq_false z)]
      exact ev_var rfl
  show Exec E _ [some (.val (.str (S t))), some (.val (.int i)), some (.val (.int n)), some (.val (.str (S (sg t i)))), some (.val (.str (S ds))), none, none, none, none, none] _
  refine' ex_guard (b := decide (ds = []) || (decide (200 < ds.length) || (decide (t[i]? = some 45) && decide (ds = [48])))) ?ht (fun z M => ?_) (fun z => ?_)
  case ht =>
    refine eb_orP (eb_is (eb_test (ev_op (ev_var rfl) ev_str r_eqS)) (q_S rfl)) fun _ => eb_orP (eb_is (eb_test (ev_op (ev_cb (ea_cons (ev_var rfl) ea_nil) (c_lenS (len_sz (by omega)))) ev_int r_gt)) ?_) fun _ => eb_andP (hmk rfl) fun _ => eb_is (eb_test (ev_op (ev_var rfl) ev_str r_eqS)) (q_S rfl)
    rw [S_len, Bool.eq_iff_iff, decide_eq_true_eq, decide_eq_true_eq]
    omega
  · refine ex_ret ev_non ?_
    show _ = optP _
    rw [hnode, hN, if_pos (by simpa using z)]
    rfl
  have hc : ¬ (ds = [] ∨ 200 < ds.length ∨ (t[i]? = some 45 ∧ ds = [48])) := fun q => by
    have : (decide (ds = []) || (decide (200 < ds.length) || (decide (t[i]? = some 45) && decide (ds = [48])))) = true := by simpa using q
    rw [z] at this
    cases this
  rw [if_neg hc] at hN
  have h0 : ds ≠ [] := fun q => hc (.inl q)
  have hint : ∀ {τ : TEnv}, τ[4]? = some (some (.val (.str (S ds)))) → EvR (tCB (fun xs H Q => ∃ a n, xs = [.str a] ∧ PySem.intText? a = some n ∧ a.length ≤ 640 ∧ Q (.int n) H) (tCons (tVar 4) tNil)) τ (.int (digitsVal ds : Nat)) τ := fun {τ} e =>
    ev_cb (ea_cons (ev_var e) ea_nil) (c_intS (by rw [hds]; exact int_dig (by rw [← hds]; exact h0) (by rw [← hds]; omega)) (by rw [S_len]; omega))
  refine ex_ret (x := optP (rAt t n i)) (τ1 := [some (.val (.str (S t))), some (.val (.int i)), some (.val (.int n)), some (.val (.str (S (sg t i)))), some (.val (.str (S ds))), none, none, none, none, none]) ?_ rfl
  have hlen : ∀ {τ : TEnv}, τ[4]? = some (some (.val (.str (S ds)))) → EvR (tCB (fun xs H Q => ∃ x n, xs = [x] ∧ LenV K x H n ∧ Q (.int n) H) (tCons (tVar 4) tNil)) τ (.int ds.length) τ := fun {τ} e => ev_is (ev_cb (ea_cons (ev_var e) ea_nil) (c_lenS (len_sz (by omega)))) (by rw [S_len])
  rw [hnode, hN]
  refine ev_if (hmk rfl) (fun z => ?_) (fun z => ?_)
  · have h45 := of_decide_eq_true z
    rw [if_pos h45] at hb ⊢
    subst hb
    refine ev_is (x := .tup [.int (-((digitsVal ds : Nat) : Int)), .int ((i : Int) + 1 + ds.length)]) (ev_tup (ea_cons (ev_un (hint rfl) u_neg) (ea_cons (ev_op (ev_op (ev_var rfl) ev_int r_add) (hlen rfl) r_add) ea_nil)) (Nat.le_of_ble_eq_true rfl)) ?_
    show _ = PV.tup [.int _, .int ((i + 1 + ds.length : Nat) : Int)]
    congr 3
  · have h45 := of_decide_eq_false z
    rw [if_neg h45] at hb ⊢
    subst hb
    refine ev_is (x := .tup [.int ((digitsVal ds : Nat) : Int), .int ((b : Int) + ds.length)]) (ev_tup (ea_cons (hint rfl) (ea_cons (ev_op (ev_var rfl) (hlen rfl) r_add) ea_nil)) (Nat.le_of_ble_eq_true rfl)) ?_
    show _ = PV.tup [.int _, .int ((b + ds.length : Nat) : Int)]
    congr 3
theorem ok_never' {lv : Nat} {f : Addr} {fd : FuncData} {ps : List Str} : FnOk P w K mg base CX0 lv f fd ps (spOf (fun _ _ => False)) :=
  ⟨fun vs H Q E h => by obtain ⟨_, _, _, _, _, h, _⟩ := h; exact h.elim, fun A outer s H args us vs Q E _ _ _ _ h => by obtain ⟨_, _, _, _, _, h, _⟩ := h; exact h.elim⟩
theorem ok__law_read (T : Txt K mg a d) : ∀ n, FnOk P w K mg base CX0 (2 + 2 * n) (a 34) (d 34) ["text", "at", "deep"] (spOf (R_law_read n))
  | 0 => ok__law_read1 T 0 ok_never'
  | n + 1 => ok__law_read1 T (n + 1) (by rw [show 1 + 2 * (n + 1) = 3 + 2 * n by omega]; exact ok__law_items T n (ok__law_read T n))
end
end K10
end
section
set_option maxRecDepth 100000
set_option maxHeartbeats 1000000
namespace K10
open PySem PySem.Spec PyProof.Rows L2 TLy TL NumText LamX
/-! steps, one by one -/
local macro_rules | `(tactic| walk_at "ev") => `(tactic| first
  | exact ev_var rfl
  | exact ev_int
  | exact ev_str
  | exact ev_bl
  | exact ev_non
  | exact ev_ty
  | exact ea_nil
  | exact eo_none
  | exact r_add
  | exact r_sub
  | exact r_lt
  | exact r_le
  | exact r_gt
  | exact r_ge
  | exact r_eqI
  | exact r_neI
  | exact r_eqS
  | exact r_neS
  | exact r_leS
  | exact r_inSign
  | exact r_isN
  | exact r_notN
  | exact u_neg
  | exact c_intI
  | exact c_abs
  | exact c_ord
  | exact c_lenT
  | exact c_lenL
  | exact c_all
  | exact Nat.le_of_ble_eq_true rfl
  | exact c_tupL
  | exact c_lstL
  | exact c_lstT
  | exact u_slT
  | exact u_slL
  | exact tg_name
  | exact tgs_nil
  | ((with_reducible refine' ev_lenM ?_) <;> rfl)
  | ((with_reducible refine' ev_op ?_ ?_ ?_) <;> try walk_at "ev")
  | ((with_reducible refine' ev_un ?_ ?_) <;> try walk_at "ev")
  | ((with_reducible refine' ea_cons ?_ ?_) <;> try walk_at "ev")
  | ((with_reducible refine' eo_some ?_) <;> try walk_at "ev")
  | ((with_reducible refine' ev_cb ?_ ?_) <;> try walk_at "ev")
  | ((with_reducible refine' ev_sl ?_ ?_ ?_ ?_) <;> try walk_at "ev")
  | ((with_reducible refine' ev_chain ?_ ?_ ?_ ?_ ?_) <;> try walk_at "ev")
  | ((with_reducible refine' eb_test ?_) <;> try walk_at "ev")
  | ((with_reducible refine' eb_B ?_) <;> try walk_at "ev")
  | ((with_reducible refine' eb_not ?_) <;> try walk_at "ev")
  | ((with_reducible refine' eb_andP ?_ ?_) <;> try walk_at "ev")
  | ((with_reducible refine' eb_orP ?_ ?_) <;> try walk_at "ev")
  | ((with_reducible refine' ev_andP ?_ ?_) <;> try walk_at "ev")
  | ((with_reducible refine' ev_orP ?_ ?_) <;> try walk_at "ev")
  | ((with_reducible refine' ev_notP ?_) <;> try walk_at "ev")
  | ((with_reducible refine' ev_tup ?_ ?_) <;> try walk_at "ev")
  | ((with_reducible refine' ev_lst ?_ ?_) <;> try walk_at "ev")
  | ((with_reducible refine' ev_call ?_ ?_) <;> first | assumption | walk_at "ev" | skip)
  | ((with_reducible refine' tg_tup ?_ ?_) <;> try walk_at "ev")
  | ((with_reducible refine' tgs_cons ?_ ?_) <;> try walk_at "ev")
  | (refine' r_mul ?_)
  | (refine' r_modN ?_)
  | (refine' r_fdivN ?_)
  | (refine' r_pow ?_)
  | (refine' r_addS ?_)
  | (refine' r_catT ?_)
  | (refine' r_catL ?_)
  | (refine' r_ixT ?_)
  | (refine' r_ixL ?_)
  | (refine' r_ixS ?_ ?_ <;> first | exact len_sz (by omega) | exact at_get _ _ (by assumption) | skip)
  | (refine' u_slS ?_ <;> first | exact len_sz (by omega) | skip)
  | (refine' c_lenS ?_ <;> first | exact len_sz (by omega) | skip)
  | (refine' c_strI ?_)
  | (refine' c_intS ?_ ?_)
  | with_reducible exact isi_NB
  | with_reducible exact isi_NI
  | with_reducible exact isi_NS
  | with_reducible exact isi_NT
  | with_reducible exact isi_NL
  | with_reducible exact isi_BB
  | with_reducible exact isi_BI
  | with_reducible exact isi_BS
  | with_reducible exact isi_BT
  | with_reducible exact isi_BL
  | with_reducible exact isi_IB
  | with_reducible exact isi_II
  | with_reducible exact isi_IS
  | with_reducible exact isi_IT
  | with_reducible exact isi_IL
  | with_reducible exact isi_SB
  | with_reducible exact isi_SI
  | with_reducible exact isi_SS
  | with_reducible exact isi_ST
  | with_reducible exact isi_SL
  | with_reducible exact isi_TB
  | with_reducible exact isi_TI
  | with_reducible exact isi_TS
  | with_reducible exact isi_TT
  | with_reducible exact isi_TL
  | with_reducible exact isi_LB
  | with_reducible exact isi_LI
  | with_reducible exact isi_LS
  | with_reducible exact isi_LT
  | with_reducible exact isi_LL
  | (refine' r_eqD ?_ ?_ ?_ ?_)
  | (refine' r_neD ?_ ?_ ?_ ?_)
  | (intro _h; walk_at "ev"))

/-- _law_told(lambda: ..) -/
theorem pe_told {X : Cx} {a : Nat → Addr} {d : Nat → FuncData} {Tl : List (Addr × Str)} {c Pt : Addr} {k : Nat} {params : Arguments} {body : Expr} {scope : Scope} {t : XK → TE} {p lpos pos : Pos} (T : Txt X.K X.mg a d) (TK : ToldK X.K X.mg a) (TB : TabB X.base X.mg c Pt) (hcode : X.env.code = .ref c)
    (hmT : (Pt, X.env.qual ++ "<lambda>") ∈ Tl) (hu : ∀ p ∈ Tl, p.1 = Pt → p.2 = X.env.qual ++ "<lambda>") (hg : Gl X "_law_told") (hr : Room (k + 2) X.A) (L : LamS X.env.scope scope) (hdef : defaultsOf params X.env = ([], []))
    (hbind : ∀ (q : Str) (cl : List (Str × Addr)) (pm cv ctv : Value), bindArgs (PySem.W.kla_fn "<lambda>" q params body scope cl pm cv ctv) ⟨[], []⟩ = pure [])
    (hbody : ∀ (A : Around) (outer : List Env) (s : Shared) (H : Hp) (E : XK) (f c' : Addr), Room k (A.deeper (lamEnv X scope s.heap.objs.size f c')) → PE (lamCx X A outer s H E scope f c') body (t E)) :
    PE X (.Call (.Name "_law_told" p) [.Lambda params body scope lpos] [] pos) (tLam Tl (TTlaw a) t) := by
  obtain ⟨oc, od, kV, doc, pm, an, cdv, ct, osl, e, lk, hcd⟩ := T._law_told.F.ex
  have b := T._law_told.b
  rw [e] at lk b
  exact pe_lamcall hg T._law_told.g T._law_told.F.kp lk hcd b sc__law_told rfl (.inl rfl) (told_law TK) TB hcode hmT hu hr L hdef hbind hbody
/-- a def of which the code object is known -/
structure FunC (K : PySem.W.Frag) (x : Str) (st : Stmt) (f : Addr) (fd : FuncData) (c : Addr) : Prop where
  ex : ∃ (oc : Value) (od : Option Addr) (kV doc pm : Value) (an : Option Addr) (ct : Value) (osl : Array (Option Value)), fd = PySem.W.fnOf x x (defArgs st) (defBody st) (defScope st) .none kV doc pm an (.ref c) ct ∧ K.lookup f = some ⟨oc, od, .func fd, osl⟩ ∧ PySem.W.codeIn K (.ref c) x = true
  kp : PySem.W.keepIn K (.ref f) = true
  b : ∃ ps, Binds K fd ps []
section
variable {P : Program} {w : World} {K : PySem.W.Frag} {mg : Str → Option Value} {base : Heap} {x : Str} {st : Stmt} {f c : Addr} {fd : FuncData} {N ps : List Str} {k : Nat} {T : List (Addr × Str)}
theorem ok_pureC {R : List PV → PV → Prop} (F : FunC K x st f fd c) (S : FnScope N ps (defScope st)) (hl : ∀ xs y, R xs y → xs.length = ps.length) (hN : ps.length ≤ N.length)
    (body : ∀ (A : Around) (outer : List Env) (s : Shared) (H : Hp) (E : XK), Room k (A.deeper (envOfC x (defScope st) s.heap.objs.size f (.ref c))) → ∀ xs y, R xs y →
      ∃ t, PSs (cxOf CX0 P w K mg base N x (defScope st) f (.ref c) A outer s H E).nox (defBody st) t ∧ ExJ T t (startT N.length xs) { nx := fun _ => y = .non, rt := fun z _ => z = y }) : FnOk P w K mg base CX0 (k + 1) f fd ps (spOfJ T R) := by
  obtain ⟨oc, od, kV, doc, pm, an, ct, osl, rfl, lk, hcd⟩ := F.ex
  refine fn_of lk hcd S (fun vs H Q E h => ?_) (fun A outer s H vs Q E hr h => ?_)
  · obtain ⟨_, G, xs, y, _, r, h, _⟩ := h
    rw [r.length]
    exact hl xs y h
  · obtain ⟨tb, G, xs, y, sub, r, h, q⟩ := h
    obtain ⟨t, ht, he⟩ := body A outer s H E hr xs y h
    refine ⟨t, ht.nox, he G (flt H) [] _ G H _ (st_start0 sub r (by rw [hl xs y h]; exact hN)) tb (fun σ' τ' G' H' z s' t' => ?_) (fun v x σ' τ' G' H' z s' t' rx => ?_)⟩
    · exact q .non G' H' s'.g s'.sub (fun b o e => s'.h b o e (by simp)) s'.old t' (by rw [show y = .non from z]; exact .non)
    · exact q v G' H' s'.g s'.sub (fun b o e => s'.h b o e (by simp)) s'.old t' (by rw [← show x = y from z]; exact rx)
end
abbrev s__law_text_right : Stmt := topS 39
abbrev N__law_text_right : List Str := ["text", "due", "is_whole"]
theorem sc__law_text_right : FnScope N__law_text_right ["text"] (defScope s__law_text_right) := ⟨rfl, rfl, rfl, by decide +kernel, rfl, by decide +kernel, by decide +kernel⟩
section
variable {P : Program} {w : World} {K : PySem.W.Frag} {mg : Str → Option Value} {base : Heap} {a : Nat → Addr} {d : Nat → FuncData}
def wholeB (n : Nat) : Option (PV × Nat) → Bool
  | none => false
  | some p => decide (p.2 = n)
def R_text_right : List PV → PV → Prop := fun xs y => ∃ t : List Nat, xs = [.str (S t)] ∧ okT' t ∧ t.length ≤ 60000 ∧ y = .bl true
def nmTR : Str := "_law_text_right.<locals>." ++ "<lambda>"
theorem ok__law_text_right {Tl : List (Addr × Str)} {c Pt : Addr} (T : Txt K mg a d) (TK : ToldK K mg a) (TM : TMK P K mg a d) (hno : PySem.W.findIn K (.ref (a 4)) "limit" = some none) (F : FunC K "_law_text_right" s__law_text_right (a 39) (d 39) c)
    (TB : TabB base mg c Pt) (hmT : (Pt, nmTR) ∈ Tl) (hu : ∀ p ∈ Tl, p.1 = Pt → p.2 = nmTR) : FnOk P w K mg base CX0 43 (a 39) (d 39) ["text"] (spOfJ Tl R_text_right) := by
  refine ok_pureC F sc__law_text_right (fun xs y h => by obtain ⟨t, rfl, _⟩ := h; rfl) (by decide) (fun A outer s H E hr xs y h => ?_)
  obtain ⟨t, rfl, hk, hl, rfl⟩ := h
  have ih__law_read := ok__law_read (P := P) (w := w) (base := base) T 20
  have ih__law_like := ok__law_like (P := P) (w := w) (base := base) T 30
  have ih__law_text := ok__law_text (P := P) (w := w) (base := base) T 20
  refine ⟨_, (pss_cons (ps_set (i := 1) sc__law_text_right.nd rfl (by first | exact Or.inl rfl | exact Or.inr rfl) (pe_call ih__law_read (hr.mono (by first | decide | omega)) (by rfl) T._law_read.g T._law_read.F.kp T._law_read.b .nil pass0 (pa_cons (pv 0) (pa_cons pe_int (pa_cons pe_int pa_nil)))))
      (pss_cons (ps_set (i := 2) sc__law_text_right.nd rfl (by first | exact Or.inl rfl | exact Or.inr rfl) (pe_and (pe_cmpR op_notN (pv 1) pe_non (nomark _)) (pe_one (pe_cmpR op_eq (pe_ix ix_tup (pv 1) pe_int (fun _ _ => rfl)) (pe_callB call_len (by rfl) T.n_len (by decide +kernel) (pa_cons (pv 0) pa_nil)) (nomark _)))))
      (pss_cons (ps_if (pt_not (pt_val (pe_call ih__law_like (hr.mono (by first | decide | omega)) (by rfl) T._law_like.g T._law_like.F.kp T._law_like.b .nil pass0 (pa_cons (pe_told (k := 30) T TK TB (by rfl) hmT hu (by rfl) (hr.mono (by first | decide | omega)) (lamS_by (sc := defScope s__law_text_right) (by decide +kernel)) (by rfl) (fun _ _ _ _ _ => by rfl) (fun A outer s H E f c' hr2 => (pe_call (ok_read_thing T) (hr2.mono (by first | decide | omega)) (by rfl) T.read_thing.g T.read_thing.F.kp T.read_thing.b .nil (passes_call (takes_of rfl rfl rfl rfl) (fun _ _ _ _ z => z)) (pa_cons (pv 0) pa_nil)))) (pa_cons (pe_ifExp (pt_val (pv 2)) (pe_lst (pa_cons (pe_ix ix_tup (pv 1) pe_int (fun _ _ => rfl)) pa_nil)) pe_str) pa_nil))))) (pss_one (ps_ret pe_bl)) pss_nil)
      (pss_one (ps_ret (pe_or (pe_not (pv 2)) (pe_one (pe_call ih__law_like (hr.mono (by first | decide | omega)) (by rfl) T._law_like.g T._law_like.F.kp T._law_like.b .nil pass0 (pa_cons (pe_lst (pa_cons (pe_call ih__law_text (hr.mono (by first | decide | omega)) (by rfl) T._law_text.g T._law_text.F.kp T._law_text.b .nil pass0 (pa_cons (pe_ix ix_tup (pv 1) pe_int (fun _ _ => rfl)) pa_nil)) (pa_cons (pe_call (ok_thing_text T TM hno) (hr.mono (by first | decide | omega)) (by rfl) T.thing_text.g T.thing_text.F.kp T.thing_text.b .nil (passes_call LamX.takes0 (fun _ _ _ _ z => z)) (pa_cons (pe_ix ix_tup (pv 1) pe_int (fun _ _ => rfl)) pa_nil)) pa_nil))) (pa_cons (pe_lst (pa_cons (pv 0) (pa_cons (pv 0) pa_nil))) pa_nil)))))))))), ?_⟩
  show ExJ Tl _ [some (.val (.str (S t))), none, none] _
  have hsz : (S t).length ≤ 1000000 := by rw [S_len]; omega
  have hT : okT t := fun c hc => (hk c hc).2
  have h37 : ∀ c ∈ t, c ≠ 37 := fun c hc => (hk c hc).1
  obtain ⟨due, hdue⟩ : ∃ due, due = rAt t 20 0 := ⟨_, rfl⟩
  -- what the program reads
  have hread : readV (.str (S t)) = readT t := if_pos (by rw [S_len]; omega)
  refine xj_seq1 (xj_set (x := optP due) (τ1 := [some (.val (.str (S t))), none, none]) (ej_of (ev_call (ea_cons (ev_var rfl) (ea_cons (ev_is (x := .int 0) ev_int rfl) (ea_cons (ev_is (x := .int 20) ev_int rfl) ea_nil))) (spP ⟨t, 0, rfl, by omega, hT, by rw [hdue]⟩)) (Shp.refl _)) rfl) ?_
  show ExJ Tl _ [some (.val (.str (S t))), some (.val (optP due)), none] _
  -- whole or not
  have whole : ∀ (b : Bool), b = wholeB t.length due → EvR (tAndV (tOp (fun x y H Q => y = .non ∧ Q (.bl (!decide (x = .non))) H) (tVar 1) (tC .non)) (tOp rEq (tOp (rIxT K) (tVar 1) (tC (.int 1))) (tCB (fun xs H Q => ∃ x n, xs = [x] ∧ LenV K x H n ∧ Q (.int n) H) (tCons (tVar 0) tNil)))) [some (.val (.str (S t))), some (.val (optP due)), none] (.bl b) [some (.val (.str (S t))), some (.val (optP due)), none] := fun b hb => by
    cases hd : due with
    | none =>
      rw [hd] at hb
      subst hb
      exact ev_andP (b := false) (c := true) (ev_op (ev_var rfl) ev_non r_notN) fun z => Bool.noConfusion z
    | some p =>
      rw [hd] at hb
      subst hb
      refine ev_andP (b := true) (ev_op (ev_var rfl) ev_non r_notN) fun _ => ev_is (ev_op (ev_op (ev_var rfl) ev_int (r_ixT (atI_nat (j := 1) rfl))) (ev_cb (ea_cons (ev_var rfl) ea_nil) (c_lenS (small hsz))) r_eqI) ?_
      rw [S_len]
      show PV.bl _ = PV.bl (decide (p.2 = t.length))
      congr 1
      rw [Bool.eq_iff_iff, decide_eq_true_eq, decide_eq_true_eq]
      omega
  by_cases hw : ∃ x, due = some (x, t.length)
  · obtain ⟨x, hx⟩ := hw
    have hxx := (rAt_iff h37).mp (hdue.symm.trans hx)
    have hrd : readT t = some x := readT_iff.mpr hxx
    refine xj_seq1 (xj_set (x := .bl true) (τ1 := [some (.val (.str (S t))), some (.val (optP due)), none]) (ej_of (whole true (by rw [hx]; show true = decide (t.length = t.length); simp)) (Shp.refl _)) rfl) ?_
    rw [hx]
    show ExJ Tl _ [some (.val (.str (S t))), some (.val (.tup [x, .int (t.length : Nat)])), some (.val (.bl true))] _
    have hlk : isLk 20 x = true := isTh_lk hxx.1 (by rw [hxx.2]; omega)
    refine xj_gF (ebj_not (b := true) (ebj_B (ej_call (τ1 := [some (.val (.str (S t))), some (.val (.tup [x, .int (t.length : Nat)])), some (.val (.bl true))]) (eaj_cons (x := .lst [x]) (told_ev (fun j o c => by
        match j with
        | 0 => exact fun z => by cases z
        | 1 => exact fun z => by cases z
        | 2 => exact fun z => by cases z
        | j + 3 => exact fun z => by cases z) (ea_cons (ev_var rfl) ea_nil) ⟨.str (S t), rfl, fun m z => (by cases z), fun s z => (by cases z; exact hsz), rfl⟩ (by rw [hread, hrd]; exact .val x))
      (eaj_cons (x := .lst [x]) (ej_of (ev_if (b := true) (eb_B (ev_var rfl)) (fun _ => ev_new (en_lst (ea_cons (ev_op (ev_var rfl) ev_int (r_ixT (atI_nat (j := 0) rfl))) ea_nil) (Nat.le_of_ble_eq_true rfl))) fun z => Bool.noConfusion z) (Shp.refl _)) eaj_nil)) (spP ⟨.lst [x], rfl, ?_, rfl⟩)))) ?_
    · show (decide ([x].length ≤ 100000) && isLks 29 [x]) = true
      show (true && (isLk 29 x && true)) = true
      rw [isTh_lk (isTh_le hxx.1 (by decide : 20 ≤ 29)) (by rw [hxx.2]; omega)]
      rfl
    · have hdu : ∀ {τ : TEnv}, τ[1]? = some (some (.val (.tup [x, .int (t.length : Nat)]))) → EvR (tOp (rIxT K) (tVar 1) (tC (.int 0))) τ x τ := fun e => ev_op (ev_var e) ev_int (r_ixT (atI_nat (j := 0) rfl))
      refine xj_ret (x := .bl (!true || true)) (ej_of (ev_orP (ev_notP (ev_var rfl)) fun _ => ev_call (ea_cons (x := .lst [.str (S t), .str (S t)]) (ev_new (en_lst (ea_cons (ev_call (ea_cons (hdu rfl) ea_nil) (spP ⟨x, rfl, hxx.1, by rw [hxx.2]; omega, by rw [hxx.2]⟩)) (ea_cons (ev_call (ea_cons (hdu rfl) ea_nil) (spEv ⟨x, rfl, isTh_sz hxx.1 (by rw [hxx.2]; exact hl), fun _ => by rw [hxx.2]; omega, by rw [if_pos hxx.1, hxx.2, if_pos hl]⟩)) ea_nil)) (Nat.le_of_ble_eq_true rfl)))
        (ea_cons (ev_new (en_lst (ea_cons (ev_var rfl) (ea_cons (ev_var rfl) ea_nil)) (Nat.le_of_ble_eq_true rfl))) ea_nil)) (spP ⟨.lst [.str (S t), .str (S t)], rfl, ?_, rfl⟩)) (Shp.refl _)) rfl
      show (true && (isLk 29 (.str (S t)) && (isLk 29 (.str (S t)) && true))) = true
      rw [str_lk hk]
      rfl
  · have hwf : wholeB t.length due = false := by
      cases hd : due with
      | none => rfl
      | some p =>
        show decide (p.2 = t.length) = false
        refine decide_eq_false fun z => hw ⟨p.1, ?_⟩
        rw [hd, ← z]
    have hrd : readT t = none := by
      cases h : readT t with
      | none => rfl
      | some x => exact absurd ⟨x, hdue.trans ((whole_iff h37).mpr h)⟩ hw
    refine xj_seq1 (xj_set (x := .bl false) (τ1 := [some (.val (.str (S t))), some (.val (optP due)), none]) (ej_of (whole false hwf.symm) (Shp.refl _)) rfl) ?_
    show ExJ Tl _ [some (.val (.str (S t))), some (.val (optP due)), some (.val (.bl false))] _
    refine xj_gF (ebj_not (b := true) (ebj_B (ej_call (τ1 := [some (.val (.str (S t))), some (.val (optP due)), some (.val (.bl false))]) (eaj_cons (x := .str "text") (told_ev (fun j o c => by
        match j with
        | 0 => exact fun z => by cases z
        | 1 => exact fun z => by cases z
        | 2 => exact fun z => by cases z
        | j + 3 => exact fun z => by cases z) (ea_cons (ev_var rfl) ea_nil) ⟨.str (S t), rfl, fun m z => (by cases z), fun s z => (by cases z; exact hsz), rfl⟩ (by rw [hread, hrd]; exact .text))
      (eaj_cons (x := .str "text") (ej_of (ev_if (b := false) (eb_B (ev_var rfl)) (fun z => Bool.noConfusion z) fun _ => ev_str) (Shp.refl _)) eaj_nil)) (spP ⟨.str "text", rfl, str_lk (t := [116, 101, 120, 116]) (by unfold okT'; decide), rfl⟩)))) ?_
    refine xj_ret (x := .bl (!false || true)) (ej_of (ev_orP (b := !false) (c := true) (ev_notP (ev_var rfl)) fun z => Bool.noConfusion z) (Shp.refl _)) rfl
end
end K10
end
section
set_option maxRecDepth 100000
set_option maxHeartbeats 1000000
namespace K10
open PySem PySem.Spec PyProof.Rows L2 TLy TL NumText LamX
/-! steps, one by one -/
local macro_rules | `(tactic| walk_at "ev") => `(tactic| first
  | exact ev_var rfl
  | exact ev_int
  | exact ev_str
  | exact ev_bl
  | exact ev_non
  | exact ev_ty
  | exact ea_nil
  | exact eo_none
  | exact r_add
  | exact r_sub
  | exact r_lt
  | exact r_le
  | exact r_gt
  | exact r_ge
  | exact r_eqI
  | exact r_neI
  | exact r_eqS
  | exact r_neS
  | exact r_leS
  | exact r_inSign
  | exact r_isN
  | exact r_notN
  | exact u_neg
  | exact c_intI
  | exact c_abs
  | exact c_ord
  | exact c_lenT
  | exact c_lenL
  | exact c_all
  | exact Nat.le_of_ble_eq_true rfl
  | exact c_tupL
  | exact c_lstL
  | exact c_lstT
  | exact u_slT
  | exact u_slL
  | exact tg_name
  | exact tgs_nil
  | ((with_reducible refine' ev_lenM ?_) <;> rfl)
  | ((with_reducible refine' ev_op ?_ ?_ ?_) <;> try walk_at "ev")
  | ((with_reducible refine' ev_un ?_ ?_) <;> try walk_at "ev")
  | ((with_reducible refine' ea_cons ?_ ?_) <;> try walk_at "ev")
  | ((with_reducible refine' eo_some ?_) <;> try walk_at "ev")
  | ((with_reducible refine' ev_cb ?_ ?_) <;> try walk_at "ev")
  | ((with_reducible refine' ev_sl ?_ ?_ ?_ ?_) <;> try walk_at "ev")
  | ((with_reducible refine' ev_chain ?_ ?_ ?_ ?_ ?_) <;> try walk_at "ev")
  | ((with_reducible refine' eb_test ?_) <;> try walk_at "ev")
  | ((with_reducible refine' eb_B ?_) <;> try walk_at "ev")
  | ((with_reducible refine' eb_not ?_) <;> try walk_at "ev")
  | ((with_reducible refine' eb_andP ?_ ?_) <;> try walk_at "ev")
  | ((with_reducible refine' eb_orP ?_ ?_) <;> try walk_at "ev")
  | ((with_reducible refine' ev_andP ?_ ?_) <;> try walk_at "ev")
  | ((with_reducible refine' ev_orP ?_ ?_) <;> try walk_at "ev")
  | ((with_reducible refine' ev_notP ?_) <;> try walk_at "ev")
  | ((with_reducible refine' ev_tup ?_ ?_) <;> try walk_at "ev")
  | ((with_reducible refine' ev_lst ?_ ?_) <;> try walk_at "ev")
  | ((with_reducible refine' ev_call ?_ ?_) <;> first | assumption | walk_at "ev" | skip)
  | ((with_reducible refine' tg_tup ?_ ?_) <;> try walk_at "ev")
  | ((with_reducible refine' tgs_cons ?_ ?_) <;> try walk_at "ev")
  | (refine' r_mul ?_)
  | (refine' r_modN ?_)
  | (refine' r_fdivN ?_)
  | (refine' r_pow ?_)
  | (refine' r_addS ?_)
  | (refine' r_catT ?_)
  | (refine' r_catL ?_)
  | (refine' r_ixT ?_)
  | (refine' r_ixL ?_)
  | (refine' r_ixS ?_ ?_ <;> first | exact len_sz (by omega) | exact at_get _ _ (by assumption) | skip)
  | (refine' u_slS ?_ <;> first | exact len_sz (by omega) | skip)
  | (refine' c_lenS ?_ <;> first | exact len_sz (by omega) | skip)
  | (refine' c_strI ?_)
  | (refine' c_intS ?_ ?_)
  | with_reducible exact isi_NB
  | with_reducible exact isi_NI
  | with_reducible exact isi_NS
  | with_reducible exact isi_NT
  | with_reducible exact isi_NL
  | with_reducible exact isi_BB
  | with_reducible exact isi_BI
  | with_reducible exact isi_BS
  | with_reducible exact isi_BT
  | with_reducible exact isi_BL
  | with_reducible exact isi_IB
  | with_reducible exact isi_II
  | with_reducible exact isi_IS
  | with_reducible exact isi_IT
  | with_reducible exact isi_IL
  | with_reducible exact isi_SB
  | with_reducible exact isi_SI
  | with_reducible exact isi_SS
  | with_reducible exact isi_ST
  | with_reducible exact isi_SL
  | with_reducible exact isi_TB
  | with_reducible exact isi_TI
  | with_reducible exact isi_TS
  | with_reducible exact isi_TT
  | with_reducible exact isi_TL
  | with_reducible exact isi_LB
  | with_reducible exact isi_LI
  | with_reducible exact isi_LS
  | with_reducible exact isi_LT
  | with_reducible exact isi_LL
  | (refine' r_eqD ?_ ?_ ?_ ?_)
  | (refine' r_neD ?_ ?_ ?_ ?_)
  | (intro _h; walk_at "ev"))

def bentN (s : Cup × List Nat) : Nat → Cup × List Nat
  | 0 => s
  | n + 1 => ((bentF (bentN s n).1 (bentN s n).2).2, (bentF (bentN s n).1 (bentN s n).2).1)
def rightF (u : Cup) : Cup := (bentN ((thingF u).2, txt (thingF u).1) 6).1
theorem bentN_ok {s : Cup × List Nat} (h : okT' s.2) : ∀ n, okT' (bentN s n).2 ∧ (bentN s n).2.length ≤ s.2.length + 5 * n
  | 0 => ⟨h, Nat.le_refl _⟩
  | n + 1 => by
    obtain ⟨h1, h2⟩ := bentN_ok h n
    obtain ⟨g1, g2⟩ := bentF_ok (bentN s n).1 h1
    exact ⟨g1, by show (bentF (bentN s n).1 (bentN s n).2).1.length ≤ _; omega⟩
abbrev s__law_right : Stmt := topS 40
abbrev N__law_right : List Str := ["cup", "thing", "text", "turn"]
theorem sc__law_right : FnScope N__law_right ["cup"] (defScope s__law_right) := ⟨rfl, rfl, rfl, by decide +kernel, rfl, by decide +kernel, by decide +kernel⟩
section
variable {P : Program} {w : World} {K : PySem.W.Frag} {mg : Str → Option Value} {base : Heap} {a : Nat → Addr} {d : Nat → FuncData}
def R_right : Cell → List PV → PV → Cell → Prop := fun c xs y c' => ∃ u : Cup, c = cupC u ∧ xs = [] ∧ y = .bl true ∧ c' = cupC (rightF u)
/-- what stands of _law_text_right, _law_right, _law_written_right -/
structure TxtJ (K : PySem.W.Frag) (mg : Str → Option Value) (a : Nat → Addr) (d : Nat → FuncData) : Prop where
  _law_text_right : DefK K mg "_law_text_right" s__law_text_right ["text"] (a 39) (d 39)
  _law_right : DefK K mg "_law_right" s__law_right ["cup"] (a 40) (d 40)
theorem ok__law_right {Tl : List (Addr × Str)} (T : Txt K mg a d) (TJ : TxtJ K mg a d) (TM : TMK P K mg a d) (hno : PySem.W.findIn K (.ref (a 4)) "limit" = some none)
    (ok_TR : FnOk P w K mg base CX0 43 (a 39) (d 39) ["text"] (spOfJ Tl R_text_right)) : FnOk P w K mg base CX0 44 (a 40) (d 40) ["cup"] (spOfJC Tl R_right) := by
  refine ok_cellJ TJ._law_right.F sc__law_right (fun c xs y c' h => by obtain ⟨u, _, rfl, _⟩ := h; rfl) (by decide) (fun cdv A outer s H E hr c xs y c' h => ?_)
  obtain ⟨u, rfl, rfl, rfl, rfl⟩ := h
  have ih__law_like := ok__law_like (P := P) (w := w) (base := base) T 30
  have ih__law_text := ok__law_text (P := P) (w := w) (base := base) T 20
  refine ⟨_, (pss_cons (ps_set (i := 1) sc__law_right.nd rfl (by first | exact Or.inl rfl | exact Or.inr rfl) (pe_call (ok__law_thing T) (hr.mono (by first | decide | omega)) (by rfl) T._law_thing.g T._law_thing.F.kp T._law_thing.b .nil pass0 (pa_cons (pv 0) pa_nil)))
      (pss_cons (ps_set (i := 2) sc__law_right.nd rfl (by first | exact Or.inl rfl | exact Or.inr rfl) (pe_call ih__law_text (hr.mono (by first | decide | omega)) (by rfl) T._law_text.g T._law_text.F.kp T._law_text.b .nil pass0 (pa_cons (pv 1) pa_nil)))
      (pss_cons (ps_if (PW.pt (pw_or (pt_not (pt_val (pe_call (ok_is_thing T) (hr.mono (by first | decide | omega)) (by rfl) T.is_thing.g T.is_thing.F.kp T.is_thing.b .nil pass0 (pa_cons (pv 1) pa_nil)))) (pw_or1 (pt_not (pt_val (pe_call ih__law_like (hr.mono (by first | decide | omega)) (by rfl) T._law_like.g T._law_like.F.kp T._law_like.b .nil pass0 (pa_cons (pe_lst (pa_cons (pe_call (ok_thing_text T TM hno) (hr.mono (by first | decide | omega)) (by rfl) T.thing_text.g T.thing_text.F.kp T.thing_text.b .nil (passes_call LamX.takes0 (fun _ _ _ _ z => z)) (pa_cons (pv 1) pa_nil)) (pa_cons (pe_call (ok_read_thing T) (hr.mono (by first | decide | omega)) (by rfl) T.read_thing.g T.read_thing.F.kp T.read_thing.b .nil (passes_call LamX.takes0 (fun _ _ _ _ z => z)) (pa_cons (pv 2) pa_nil)) pa_nil))) (pa_cons (pe_lst (pa_cons (pv 2) (pa_cons (pv 1) pa_nil))) pa_nil)))))))) (pss_one (ps_ret pe_bl)) pss_nil)
      (pss_cons (ps_for PassesOwn.never rfl (pi_range1 (by rfl) T.n_range (pa_cons pe_int pa_nil)) (pg_name (i := 3) sc__law_right.nd rfl (by first | exact Or.inl rfl | exact Or.inr rfl)) (pss_cons (ps_if (pt_not (pt_val (pe_call ok_TR (hr.mono (by first | decide | omega)) (by rfl) TJ._law_text_right.g TJ._law_text_right.F.kp TJ._law_text_right.b .nil pass0 (pa_cons (pv 2) pa_nil)))) (pss_one (ps_ret pe_bl)) pss_nil)
      (pss_one (ps_set (i := 2) sc__law_right.nd rfl (by first | exact Or.inl rfl | exact Or.inr rfl) (pe_call (ok__law_bent T) (hr.mono (by first | decide | omega)) (by rfl) T._law_bent.g T._law_bent.F.kp T._law_bent.b .nil pass0 (pa_cons (pv 0) (pa_cons (pv 2) pa_nil)))))))
      (pss_one (ps_ret pe_bl)))))), ?_⟩
  show ExJ Tl _ [some (.mu false (cupC u)), none, none, none] _
  obtain ⟨x, hx⟩ : ∃ x, x = (thingF u).1 := ⟨_, rfl⟩
  obtain ⟨u1, hu1⟩ : ∃ v, v = (thingF u).2 := ⟨_, rfl⟩
  have hF : rightF u = (bentN (u1, txt x) 6).1 := by rw [hx, hu1]; rfl
  obtain ⟨hth, hlen⟩ := thingF_ok u
  rw [← hx] at hth hlen
  rw [hF]
  have hok := txt_ok hth
  have hsz := isTh_sz hth (by omega)
  have hrd : readT (txt x) = some x := readT_iff.mpr ⟨hth, rfl⟩
  refine xj_seq1 (xj_set (x := x) (τ1 := [some (.mu false (cupC u1)), none, none, none]) (ej_of (show EvR _ [some (.mu false (cupC u)), none, none, none] _ [some (.mu false (cupC u1)), none, none, none] from by
    rw [hx, hu1]
    exact ev_callC (o := false) rfl ea_nil rfl (spC ⟨u, rfl, rfl, rfl, rfl⟩)) (Shp.set (j := 0) (o := false) (c := cupC u) rfl)) rfl) ?_
  refine xj_seq1 (xj_set (x := .str (S (txt x))) (τ1 := [some (.mu false (cupC u1)), some (.val x), none, none]) (ej_of (show EvR _ [some (.mu false (cupC u1)), some (.val x), none, none] _ [some (.mu false (cupC u1)), some (.val x), none, none] from
    ev_call (ea_cons (ev_var rfl) ea_nil) (spP ⟨x, rfl, hth, by omega, rfl⟩)) (Shp.refl _)) rfl) ?_
  show ExJ Tl _ [some (.mu false (cupC u1)), some (.val x), some (.val (.str (S (txt x)))), none] _
  refine xj_gF (τ1 := [some (.mu false (cupC u1)), some (.val x), some (.val (.str (S (txt x)))), none]) (ebj_of (show EvB _ [some (.mu false (cupC u1)), some (.val x), some (.val (.str (S (txt x)))), none] (!true || !true) [some (.mu false (cupC u1)), some (.val x), some (.val (.str (S (txt x)))), none] from
    eb_orP (eb_not (eb_B (ev_call (ea_cons (ev_var rfl) ea_nil) (spP ⟨x, rfl, hsz, by rw [hth]⟩)))) fun _ => eb_not (eb_B (ev_call (ea_cons (x := .lst [.str (S (txt x)), x]) (ev_new (en_lst (ea_cons (ev_call (ea_cons (ev_var rfl) ea_nil) (spEv ⟨x, rfl, hsz, fun _ => by omega, by rw [if_pos hth, if_pos (by omega)]⟩)) (ea_cons (ev_call (ea_cons (ev_var rfl) ea_nil) (spEv ⟨.str (S (txt x)), rfl, fun m z => (by cases z), fun s z => (by cases z; rw [S_len]; omega), by
      rw [show readV (.str (S (txt x))) = readT (txt x) from if_pos (by rw [S_len]; omega), hrd]
      rfl⟩)) ea_nil)) (Nat.le_of_ble_eq_true rfl)))
      (ea_cons (ev_new (en_lst (ea_cons (ev_var rfl) (ea_cons (ev_var rfl) ea_nil)) (Nat.le_of_ble_eq_true rfl))) ea_nil)) (spP ⟨.lst [.str (S (txt x)), x], rfl, by
      show (true && (isLk 29 (.str (S (txt x))) && (isLk 29 x && true))) = true
      rw [str_lk hok, isTh_lk (isTh_le hth (by decide : 20 ≤ 29)) (by omega)]
      rfl, rfl⟩)))) (Shp.refl _)) ?_
  refine xj_seq (fun τ' => ∃ s2 s3, τ' = [some (.mu false (cupC (bentN (u1, txt x) 6).1)), some (.val x), s2, s3]) (xj_for (fun i τ' => ∃ s3, τ' = [some (.mu false (cupC (bentN (u1, txt x) i).1)), some (.val x), some (.val (.str (S (bentN (u1, txt x) i).2))), s3]) (itc_range1 (n := 6) (by decide) (by decide)) ⟨none, rfl⟩ ?_ ?_) ?_
  · rintro i z _ hz ⟨s3, rfl⟩
    have hi : i < 6 := by
      have := (List.getElem?_eq_some_iff.mp hz).1
      unfold rangeP at this
      rw [List.length_map, List.length_range] at this
      exact this
    obtain ⟨b, hb⟩ : ∃ b, b = bentN (u1, txt x) i := ⟨_, rfl⟩
    obtain ⟨g1, g2⟩ := bentN_ok (s := (u1, txt x)) hok i
    have g2 : (bentN (u1, txt x) i).2.length ≤ (txt x).length + 5 * i := g2
    have hn : bentN (u1, txt x) (i + 1) = ((bentF b.1 b.2).2, (bentF b.1 b.2).1) := by rw [hb]; rfl
    rw [hn]
    rw [← hb] at g1 g2 ⊢
    show ExJ Tl _ [some (.mu false (cupC b.1)), some (.val x), some (.val (.str (S b.2))), some (.val z)] _
    refine xj_gF (ebj_not (b := true) (ebj_B (ej_callJ (eaj_cons (x := .str (S b.2)) (ej_of (τ1 := [some (.mu false (cupC b.1)), some (.val x), some (.val (.str (S b.2))), some (.val z)]) (show EvR _ [some (.mu false (cupC b.1)), some (.val x), some (.val (.str (S b.2))), some (.val z)] _ [some (.mu false (cupC b.1)), some (.val x), some (.val (.str (S b.2))), some (.val z)] from ev_var rfl) (Shp.refl _)) eaj_nil) ⟨b.2, rfl, g1, by omega, rfl⟩))) ?_
    refine xj_set (x := .str (S (bentF b.1 b.2).1)) (τ1 := [some (.mu false (cupC (bentF b.1 b.2).2)), some (.val x), some (.val (.str (S b.2))), some (.val z)]) (ej_of (show EvR _ [some (.mu false (cupC b.1)), some (.val x), some (.val (.str (S b.2))), some (.val z)] _ [some (.mu false (cupC (bentF b.1 b.2).2)), some (.val x), some (.val (.str (S b.2))), some (.val z)] from
      ev_callC (o := false) rfl (ea_cons (ev_var rfl) ea_nil) rfl (spC ⟨b.1, b.2, rfl, rfl, by omega, rfl, rfl⟩)) (Shp.set (j := 0) (o := false) (c := cupC b.1) rfl)) ⟨some (.val z), rfl⟩
  · rintro τ' ⟨s3, rfl⟩
    exact ⟨_, s3, rfl⟩
  · rintro τ' ⟨s2, s3, rfl⟩
    exact xj_ret (ej_of (show EvR _ [some (.mu false (cupC (bentN (u1, txt x) 6).1)), some (.val x), lent s2, lent s3] _ [some (.mu false (cupC (bentN (u1, txt x) 6).1)), some (.val x), lent s2, lent s3] from ev_bl) (Shp.refl _)) ⟨rfl, 0, rfl⟩
end
end K10
end
section
set_option maxRecDepth 100000
set_option maxHeartbeats 1000000
namespace K10
open PySem PySem.Spec PyProof.Rows L2 TLy TL NumText LamX
/-! steps, one by one -/
local macro_rules | `(tactic| walk_at "ev") => `(tactic| first
  | exact ev_var rfl
  | exact ev_int
  | exact ev_str
  | exact ev_bl
  | exact ev_non
  | exact ev_ty
  | exact ea_nil
  | exact eo_none
  | exact r_add
  | exact r_sub
  | exact r_lt
  | exact r_le
  | exact r_gt
  | exact r_ge
  | exact r_eqI
  | exact r_neI
  | exact r_eqS
  | exact r_neS
  | exact r_leS
  | exact r_inSign
  | exact r_isN
  | exact r_notN
  | exact u_neg
  | exact c_intI
  | exact c_abs
  | exact c_ord
  | exact c_lenT
  | exact c_lenL
  | exact c_all
  | exact Nat.le_of_ble_eq_true rfl
  | exact c_tupL
  | exact c_lstL
  | exact c_lstT
  | exact u_slT
  | exact u_slL
  | exact tg_name
  | exact tgs_nil
  | ((with_reducible refine' ev_lenM ?_) <;> rfl)
  | ((with_reducible refine' ev_op ?_ ?_ ?_) <;> try walk_at "ev")
  | ((with_reducible refine' ev_un ?_ ?_) <;> try walk_at "ev")
  | ((with_reducible refine' ea_cons ?_ ?_) <;> try walk_at "ev")
  | ((with_reducible refine' eo_some ?_) <;> try walk_at "ev")
  | ((with_reducible refine' ev_cb ?_ ?_) <;> try walk_at "ev")
  | ((with_reducible refine' ev_sl ?_ ?_ ?_ ?_) <;> try walk_at "ev")
  | ((with_reducible refine' ev_chain ?_ ?_ ?_ ?_ ?_) <;> try walk_at "ev")
  | ((with_reducible refine' eb_test ?_) <;> try walk_at "ev")
  | ((with_reducible refine' eb_B ?_) <;> try walk_at "ev")
  | ((with_reducible refine' eb_not ?_) <;> try walk_at "ev")
  | ((with_reducible refine' eb_andP ?_ ?_) <;> try walk_at "ev")
  | ((with_reducible refine' eb_orP ?_ ?_) <;> try walk_at "ev")
  | ((with_reducible refine' ev_andP ?_ ?_) <;> try walk_at "ev")
  | ((with_reducible refine' ev_orP ?_ ?_) <;> try walk_at "ev")
  | ((with_reducible refine' ev_notP ?_) <;> try walk_at "ev")
  | ((with_reducible refine' ev_tup ?_ ?_) <;> try walk_at "ev")
  | ((with_reducible refine' ev_lst ?_ ?_) <;> try walk_at "ev")
  | ((with_reducible refine' ev_call ?_ ?_) <;> first | assumption | walk_at "ev" | skip)
  | ((with_reducible refine' tg_tup ?_ ?_) <;> try walk_at "ev")
  | ((with_reducible refine' tgs_cons ?_ ?_) <;> try walk_at "ev")
  | (refine' r_mul ?_)
  | (refine' r_modN ?_)
  | (refine' r_fdivN ?_)
  | (refine' r_pow ?_)
  | (refine' r_addS ?_)
  | (refine' r_catT ?_)
  | (refine' r_catL ?_)
  | (refine' r_ixT ?_)
  | (refine' r_ixL ?_)
  | (refine' r_ixS ?_ ?_ <;> first | exact len_sz (by omega) | exact at_get _ _ (by assumption) | skip)
  | (refine' u_slS ?_ <;> first | exact len_sz (by omega) | skip)
  | (refine' c_lenS ?_ <;> first | exact len_sz (by omega) | skip)
  | (refine' c_strI ?_)
  | (refine' c_intS ?_ ?_)
  | with_reducible exact isi_NB
  | with_reducible exact isi_NI
  | with_reducible exact isi_NS
  | with_reducible exact isi_NT
  | with_reducible exact isi_NL
  | with_reducible exact isi_BB
  | with_reducible exact isi_BI
  | with_reducible exact isi_BS
  | with_reducible exact isi_BT
  | with_reducible exact isi_BL
  | with_reducible exact isi_IB
  | with_reducible exact isi_II
  | with_reducible exact isi_IS
  | with_reducible exact isi_IT
  | with_reducible exact isi_IL
  | with_reducible exact isi_SB
  | with_reducible exact isi_SI
  | with_reducible exact isi_SS
  | with_reducible exact isi_ST
  | with_reducible exact isi_SL
  | with_reducible exact isi_TB
  | with_reducible exact isi_TI
  | with_reducible exact isi_TS
  | with_reducible exact isi_TT
  | with_reducible exact isi_TL
  | with_reducible exact isi_LB
  | with_reducible exact isi_LI
  | with_reducible exact isi_LS
  | with_reducible exact isi_LT
  | with_reducible exact isi_LL
  | (refine' r_eqD ?_ ?_ ?_ ?_)
  | (refine' r_neD ?_ ?_ ?_ ?_)
  | (intro _h; walk_at "ev"))

abbrev s__law_written_right : Stmt := topS 41
abbrev N__law_written_right : List Str := ["texts", "due", "text", "deep", "most", "odds", "told", "own", "parts", "words"]
theorem sc__law_written_right : FnScope N__law_written_right [] (defScope s__law_written_right) := ⟨rfl, rfl, rfl, by decide +kernel, rfl, by decide +kernel, by decide +kernel⟩
abbrev s_law : Stmt := topS 42
abbrev N_law : List Str := ["script", "cup", "turn"]
theorem sc_law : FnScope N_law ["script"] (defScope s_law) := ⟨rfl, rfl, rfl, by decide +kernel, rfl, by decide +kernel, by decide +kernel⟩
section
variable {P : Program} {w : World} {K : PySem.W.Frag} {mg : Str → Option Value} {base : Heap} {a : Nat → Addr} {d : Nat → FuncData}
/-- the script is read as it stands -/
def spCup (K : PySem.W.Frag) : Sp := fun vs H Q _ => ∃ (s : Addr) (l : List Int), vs = [.ref s] ∧ SqL K H s (l.map V.int) ∧ l.length ≤ 100000 ∧ ∀ p H', (∀ b o, H b = some o → H' b = some o) → H p = none → H' p = some (.lst [.int (cupF l).1, .int (cupF l).2]) → Q (.ref p) H'
theorem cup_ret {l : List Int} {s0 : Option Sl} : EvN (tLst (tCons (tIf (tTest (tOp (rI0 fun i j => .bl (decide (j ≤ i))) (tVar 1) (tOp (rI CPow fun i j => .int (i ^ j.toNat)) (tC (.int 10)) (tC (.int 18))))) (tOp (rI CDivN fun i j => .int (i.fdiv j)) (tVar 1) (tC (.int 367))) (tC (.int 0)))
    (tCons (tOp (rI (fun _ j => j ≠ 0) fun i j => .int (i.fmod j)) (tCB (fun xs H Q => (∃ i, xs = [V.int i] ∧ Q (.int i) H) ∨ ∃ k, xs = [V.bl k] ∧ Q (.int (if k then 1 else 0)) H) (tCons (tOp (rI0 fun i j => .int (i + j)) (tOp (rI CMul fun i j => .int (i * j)) (tVar 1) (tC (.int 1163))) (tC (.int 112121))) tNil)) (tC (.int 1048576))) tNil)))
    [s0, some (.val (.int (cell0 l)))] [.int (cupF l).1, .int (cupF l).2] [s0, some (.val (.int (cell0 l)))] := by
  refine en_lst (ea_cons (ev_if (τ1 := [s0, some (.val (.int (cell0 l)))]) (τ2 := [s0, some (.val (.int (cell0 l)))]) (b := decide (10 ^ 18 ≤ cell0 l)) (x := .int (cupF l).1) ?ga (fun z => ?gb) (fun z => ?gc)) (ea_cons ?gd ea_nil)) (Nat.le_of_ble_eq_true rfl)
  case ga => refine eb_test (ev_op (ev_var rfl) (ev_op ev_int ev_int (r_pow ⟨by decide, by decide, by decide⟩)) r_ge)
  case gb =>
    refine ev_is (x := .int ((cell0 l).fdiv 367)) (ev_op (ev_var rfl) ev_int (r_fdivN ⟨by decide, by decide⟩)) ?_
    unfold cupF
    rw [if_pos (of_decide_eq_true z)]
  case gc =>
    refine ev_is (x := .int 0) ev_int ?_
    unfold cupF
    rw [if_neg (of_decide_eq_false z)]
  case gd => refine ev_op (ev_cb (ea_cons (ev_op (ev_op (ev_var rfl) ev_int (r_mul (.inr ⟨by decide, by decide⟩))) ev_int r_add) ea_nil) c_intI) ev_int (r_modN (by decide))
theorem ok_cup (T : Txt K mg a d) : FnOk P w K mg base CX0 1 (a 25) (d 25) ["script"] (spCup K) := by
  refine T._law_cup.F.ok sc__law_cup (fun vs H Q E h => by obtain ⟨s, l, rfl, _⟩ := h; rfl) (fun cdv A outer s H vs Q E hr h => ?_)
  obtain ⟨sc, l, rfl, hS, hl, q⟩ := h
  refine ⟨_, (pss_cons (ps_set (i := 1) sc__law_cup.nd rfl (by first | exact Or.inl rfl | exact Or.inr rfl) (pe_callB call_abs (by rfl) T.n_abs (by decide +kernel) (pa_cons (pe_ix ix_list (pe_op op_cat (pe_callTy call_list_of (by rfl) T.n_list (by decide +kernel) (pa_cons (pv 0) pa_nil)) (pe_lst (pa_cons pe_int pa_nil))) pe_int (fun _ _ => rfl)) pa_nil)))
      (pss_one (ps_ret (pe_lst (pa_cons (pe_ifExp (pt_cmpR op_ge (pv 1) (pe_op op_pow pe_int pe_int) (nomark _)) (pe_op op_fdivN (pv 1) pe_int) pe_int) (pa_cons (pe_op op_modN (pe_callTy call_int1 (by rfl) T.n_int (by decide +kernel) (pa_cons (pe_op op_add (pe_op op_mul (pv 1) pe_int) pe_int) pa_nil)) pe_int) pa_nil)))))), ?_⟩
  refine ⟨.ref sc, rfl, sc, l.map V.int, rfl, .inl hS, fun p1 h1 => ?_⟩
  refine ⟨by decide, fun p2 h2 => ?_⟩
  have n12 : p1 ≠ p2 := fun z => by subst z; rw [upd_same] at h2; cases h2
  refine ⟨p1, p2, l.map V.int, [.int 0], rfl, rfl, by rw [upd_ne n12]; exact upd_same, upd_same, ?_, fun p3 h3 => ?_⟩
  · rw [List.length_map]
    exact small (by show l.length + 1 ≤ _; omega)
  refine ⟨p3, l.map V.int ++ [.int 0], 0, .int (l.headD 0), rfl, rfl, SqL.of upd_same, ?_, l.headD 0, rfl, ?_⟩
  · cases l <;> exact atI_nat (j := 0) rfl
  obtain ⟨H3, e3⟩ : ∃ H3, H3 = upd (upd (upd H p1 (.lst (l.map V.int))) p2 (.lst [.int 0])) p3 (.lst (l.map V.int ++ [.int 0])) := ⟨_, rfl⟩
  have sub : ∀ b o, H b = some o → H3 b = some o := fun b o e => by
    have x1 : upd H p1 (.lst (l.map V.int)) b = some o := by rw [upd_ne (ne_of_none e h1)]; exact e
    have x2 : upd (upd H p1 (.lst (l.map V.int))) p2 (.lst [.int 0]) b = some o := by rw [upd_ne (ne_of_none x1 h2)]; exact x1
    rw [e3, upd_ne (ne_of_none x2 h3)]
    exact x2
  rw [← e3]
  have s0 : StT (fun _ => none) H3 [] (fun _ => none) H3 [some (.ref sc), some (.int (cell0 l))] [none, some (.val (.int (cell0 l)))] := by
    refine ⟨Same.refl _, fun _ _ e _ => e, fun b o e => ⟨o, e⟩, fun _ _ e => (by cases e), fun _ _ _ => rfl, fun _ z => absurd z (by simp), rfl, fun i t e => ?_, fun i j o c o' c' v e1 e2 e3 e4 => ?_⟩
    · match i, e with
      | 1, e => cases e; exact ⟨_, rfl, .int _⟩
    · match i, e1 with
      | 1, e1 => cases e1
  exact cup_ret (s0 := none) (fun _ => none) H3 [] _ (fun _ => none) H3 s0 _ fun p vs G2 H2 s2 e2 hp gp hp2 r nw => by
    refine q p H2 (fun b o e => s2.h b o (sub b o e) (by simp)) (Option.eq_none_iff_forall_ne_some.mpr fun o e => by rw [sub p o e] at hp; cases hp) ?_
    rw [hp2]
    cases r with
    | cons r1 r2 =>
      cases r1
      cases r2 with
      | cons r3 r4 =>
        cases r3
        cases r4
        rfl
def R_written : List PV → PV → Prop := fun xs y => xs = [] ∧ y = .bl true
structure TxtL (K : PySem.W.Frag) (mg : Str → Option Value) (a : Nat → Addr) (d : Nat → FuncData) : Prop where
  _law_written_right : DefK K mg "_law_written_right" s__law_written_right [] (a 41) (d 41)
  law : DefK K mg "law" s_law ["script"] (a 42) (d 42)
def spLaw (Tl : List (Addr × Str)) (K : PySem.W.Frag) : Sp := fun vs H Q _ => Tabs Tl H ∧ ∃ (s : Addr) (l : List Int), vs = [.ref s] ∧ SqL K H s (l.map V.int) ∧ l.length ≤ 100000 ∧ ∀ H', Q (.bl true) H'
def lawN (u : Cup) : Nat → Cup
  | 0 => u
  | n + 1 => rightF (lawN u n)
theorem ok_law {Tl : List (Addr × Str)} (T : Txt K mg a d) (TJ : TxtJ K mg a d) (TL : TxtL K mg a d)
    (ok_WR : FnOk P w K mg base CX0 44 (a 41) (d 41) [] (spOfJ Tl R_written)) (ok_RT : FnOk P w K mg base CX0 44 (a 40) (d 40) ["cup"] (spOfJC Tl R_right)) : FnOk P w K mg base CX0 45 (a 42) (d 42) ["script"] (spLaw Tl K) := by
  refine TL.law.F.ok sc_law (fun vs H Q E h => by obtain ⟨_, s, l, rfl, _⟩ := h; rfl) (fun cdv A outer s H vs Q E hr h => ?_)
  obtain ⟨tb, sc, l, rfl, hS, hl, q⟩ := h
  refine ⟨_, (pss_cons (ps_set (i := 1) sc_law.nd rfl (by first | exact Or.inl rfl | exact Or.inr rfl) (pe_call (ok_cup T) (hr.mono (by first | decide | omega)) (by rfl) T._law_cup.g T._law_cup.F.kp T._law_cup.b .nil pass0 (pa_cons (pv 0) pa_nil)))
      (pss_cons (ps_if (pt_not (pt_val (pe_call0 ok_WR (hr.mono (by first | decide | omega)) (by rfl) TL._law_written_right.g TL._law_written_right.F.kp TL._law_written_right.b .nil pass0))) (pss_one (ps_ret pe_bl)) pss_nil)
      (pss_cons (ps_for PassesOwn.never rfl (pi_range1 (by rfl) T.n_range (pa_cons pe_int pa_nil)) (pg_name (i := 2) sc_law.nd rfl (by first | exact Or.inl rfl | exact Or.inr rfl)) (pss_one (ps_if (pt_not (pt_val (pe_call ok_RT (hr.mono (by first | decide | omega)) (by rfl) TJ._law_right.g TJ._law_right.F.kp TJ._law_right.b .nil pass0 (pa_cons (pv 1) pa_nil)))) (pss_one (ps_ret pe_bl)) pss_nil)))
      (pss_one (ps_ret pe_bl))))), ?_⟩
  refine ⟨.ref sc, rfl, sc, l, rfl, hS, hl, fun p H1 sub hp hp1 => ?_⟩
  have t1 : Tabs Tl H1 := tb.ext sub
  have hfp : flt H1 p = some (.lst [.int (cupF l).1, .int (cupF l).2]) := flt_of hp1 fun _ z => by cases z
  have s1 : StT (fun _ => none) (flt H) [] (fun _ => none) (flt H1) [some (.ref sc), some (.ref p), none] [none, some (.mu true (cupC (cupF l))), none] := by
    refine ⟨Same.refl _, fun b o e _ => flt_of (sub b o (flt_sub H b o e)) fun ps z => flt_no (by rw [z] at e; exact e), fun b o e => ⟨o, flt_of (sub b o (flt_sub H b o e)) fun ps z => flt_no (by rw [z] at e; exact e)⟩, fun _ _ e => (by cases e), fun _ _ _ => rfl, fun _ z => absurd z (by simp), rfl, fun i t e => ?_, fun i j o c o' c' v e1 e2 e3 e4 => ?_⟩
    · match i, e with
      | 0, e => cases e
      | 1, e => cases e; exact ⟨_, rfl, p, rfl, rfl, ⟨_, hfp, .cons (.int _) (.cons (.int _) .nil)⟩, fun _ => flt_none hp, fun z => by cases z⟩
      | 2, e => cases e
      | i + 3, e => cases e
    · have one : ∀ (i : Nat) (o : Bool) (c : Cell), ([none, some (.mu true (cupC (cupF l))), none] : TEnv)[i]? = some (some (.mu o c)) → i = 1 := fun i o c e => by
        match i, e with
        | 0, e => cases e
        | 1, _ => rfl
        | 2, e => cases e
        | i + 3, e => cases e
      rw [one i _ _ e1, one j _ _ e2]
  have key : ExJ Tl (tSeq (tIfS (tNot (tB (tCall (spOfJ Tl R_written) [] E0 tNil))) (tRet (tC (.bl false))) tNext) (tSeq (tFor (iRng1 (tCons (tC (.int 11)) tNil)) (gName 2) (tIfS (tNot (tB (tCall (spOfJC Tl R_right) [] E0 (tCons (tVar 1) tNil)))) (tRet (tC (.bl false))) tNext)) (tRet (tC (.bl true)))))
      [none, some (.mu true (cupC (cupF l))), none] { nx := fun _ => False, rt := fun z _ => z = .bl true } := by
    refine xj_gF (ebj_not (b := true) (ebj_B (ej_callJ eaj_nil ⟨rfl, rfl⟩))) ?_
    refine xj_seq (fun τ' => ∃ n s3, τ' = [none, some (.mu true (cupC (lawN (cupF l) n))), s3]) (xj_for (fun i τ' => ∃ s3, τ' = [none, some (.mu true (cupC (lawN (cupF l) i))), s3]) (itc_range1 (n := 11) (by decide) (by decide)) ⟨none, rfl⟩ ?_ ?_) ?_
    · rintro i z _ hz ⟨s3, rfl⟩
      refine xj_if (b := !true) (ebj_not (ebj_B (ej_callJC (i := 1) (o := true) (c := cupC (lawN (cupF l) i)) (c' := cupC (lawN (cupF l) (i + 1))) rfl ⟨lawN (cupF l) i, rfl, rfl, rfl, rfl⟩))) (fun z => Bool.noConfusion z) (fun _ => xj_next ⟨some (.val z), rfl⟩)
    · rintro τ' ⟨s3, rfl⟩
      exact ⟨_, s3, rfl⟩
    · rintro τ' ⟨n, s3, rfl⟩
      exact xj_ret (ej_of (show EvR _ [none, some (.mu false (cupC (lawN (cupF l) n))), lent s3] _ [none, some (.mu false (cupC (lawN (cupF l) n))), lent s3] from ev_bl) (Shp.refl _)) rfl
  refine key _ _ _ _ _ H1 _ s1 t1 (fun _ _ _ _ z => z.elim) fun v x σ' τ' G' H' z s' t' r => ?_
  have z : x = .bl true := z
  subst z
  cases r
  exact q H'
end
end K10
end
section
set_option maxRecDepth 100000
set_option maxHeartbeats 2000000
/-! comprehensions whose elements make lambdas -/
namespace TLy
open PySem PySem.Spec PyProof.Rows L2 LamX
def ItJ (T : List (Addr × Str)) (wi : TI) (τ : TEnv) (xs : List PV) : Prop := ∀ (G0 H0 : Hp) (bs : List Addr) (σ : L2.St) (G H : Hp), StT G0 H0 bs G (flt H) σ τ → Tabs T H → ∀ R : It → Hp → Prop,
  (∀ J G1 H1, StT G0 H0 bs G1 (flt H1) σ τ → Tabs T H1 → Same G G1 → Yld J G1 xs → R J H1) → wi σ H R
section
variable {T : List (Addr × Str)} {τ : TEnv} {te : TE} {K : PySem.W.Frag} {xs : List PV}
theorem itj_list (h : EvJ T te τ (.lst xs) τ) : ItJ T (iList K te) τ xs := fun G0 H0 bs σ G H s t R q => h _ _ _ _ _ _ s t _ fun v G1 H1 s1 t1 e1 r1 => by
  cases r1 with
  | @lst a vs _ hv r =>
    refine ⟨a, rfl, ⟨vs, SqL.of (s1.subJ _ _ hv)⟩, q _ G1 H1 s1 t1 e1 fun i G2 H2 g2 sub => ⟨fun x hx => ?_, fun hi => ?_⟩⟩
    · obtain ⟨w, w1, w2⟩ := r.get hx
      have hL : SqL K H2 a vs := SqL.of (sub _ _ (g2 _ _ hv))
      refine ⟨⟨vs, w, hL, w1⟩, fun v' H' hy => ?_⟩
      obtain ⟨rfl, hy⟩ := hy
      have e := hy vs hL
      rw [w1] at e
      cases e
      exact ⟨G2, Gr.refl sub, w2.mono g2⟩
    · exact ⟨vs, SqL.of (sub _ _ (g2 _ _ hv)), by rw [r.length]; omega⟩
theorem itj_tup (h : EvJ T te τ (.tup xs) τ) : ItJ T (iTup K te) τ xs := fun G0 H0 bs σ G H s t R q => h _ _ _ _ _ _ s t _ fun v G1 H1 s1 t1 e1 r1 => by
  cases r1 with
  | @tup a vs _ hv r =>
    refine ⟨a, rfl, ⟨vs, SqT.of (s1.subJ _ _ hv)⟩, q _ G1 H1 s1 t1 e1 fun i G2 H2 g2 sub => ⟨fun x hx => ?_, fun hi => ?_⟩⟩
    · obtain ⟨w, w1, w2⟩ := r.get hx
      have hL : SqT K H2 a vs := SqT.of (sub _ _ (g2 _ _ hv))
      refine ⟨⟨vs, w, hL, w1⟩, fun v' H' hy => ?_⟩
      obtain ⟨rfl, hy⟩ := hy
      have e := hy vs hL
      rw [w1] at e
      cases e
      exact ⟨G2, Gr.refl sub, w2.mono g2⟩
    · exact ⟨vs, SqT.of (sub _ _ (g2 _ _ hv)), by rw [r.length]; omega⟩
theorem mutsN {σ : L2.St} {τ : TEnv} (hv : ∀ (k : Nat) (o : Bool) (c : Cell), τ[k]? ≠ some (some (.mu o c))) : muts σ τ = [] := by
  cases h : muts σ τ with
  | nil => rfl
  | cons b l =>
    obtain ⟨i, o, c, e, _⟩ := mem_muts.mp (show b ∈ muts σ τ by rw [h]; exact List.mem_cons_self)
    exact absurd e (hv i o c)
theorem lentN {τ : TEnv} (hv : ∀ (k : Nat) (o : Bool) (c : Cell), τ[k]? ≠ some (some (.mu o c))) : lentT τ = τ := by
  refine List.ext_getElem? fun k => ?_
  rw [lentT_get]
  cases h : τ[k]? with
  | none => rfl
  | some t =>
    cases t with
    | none => rfl
    | some s =>
      cases s with
      | val x => rfl
      | mu o c => exact absurd h (hv k o c)
theorem ej_lc {wi : TI} {j : Nat} {tt : TT} {te : TE} (F : Nat → Option PV) (hv : ∀ (k : Nat) (o : Bool) (c : Cell), τ[k]? ≠ some (some (.mu o c))) (hi : ItJ T wi τ xs) (hz : xs.length ≤ 100000)
    (hs : ∀ i x, xs[i]? = some x → match F i with
      | none => EbJ T tt (τ.set j (some (.val x))) false (τ.set j (some (.val x)))
      | some y => EbJ T tt (τ.set j (some (.val x))) true (τ.set j (some (.val x))) ∧ EvJ T te (τ.set j (some (.val x))) y (τ.set j (some (.val x)))) :
    EvJ T (tLc wi (gName j) tt te [j]) τ (.lst ((List.range xs.length).filterMap F)) τ := by
  intro G0 H0 bs σ G H s t Q q
  refine hi _ _ _ _ _ _ s t _ fun J G1 H1 s1 t1 e1 hJ => ?_
  intro D hD
  have hDf : flt H1 D = none := flt_none hD
  have h0D : H0 D = none := s1.new0 hDf
  have nwD : ∀ (k : Nat) (o : Bool) (c : Cell), τ[k]? = some (some (.mu o c)) → σ[k]? ≠ some (some (.ref D)) := fun k o c e => absurd e (hv k o c)
  have fD : ∀ {H : Hp} {acc : List V}, flt (upd H D (.lst acc)) = upd (flt H) D (.lst acc) := fun {H acc} => by
    funext b
    by_cases hb : b = D
    · subst hb
      rw [upd_same]
      exact flt_of upd_same fun _ z => by cases z
    · rw [upd_ne hb]
      unfold flt
      rw [upd_ne hb]
  have tD : ∀ {H : Hp} {acc : List V}, Tabs T H → (H D = none ∨ ∃ a0, H D = some (.lst a0)) → Tabs T (upd H D (.lst acc)) := fun {H acc} t h => tabs_keep (G := G) (G2 := G) (ms := if H D = none then [] else [D]) t (fun b o e nb => by
      by_cases hb : b = D
      · subst hb
        split at nb
        · rename_i z; rw [z] at e; cases e
        · exact absurd List.mem_cons_self nb
      · rw [upd_ne hb]; exact e) (fun b hb => by
      split at hb
      · cases hb
      · rename_i hn
        rw [List.mem_singleton.mp hb]
        rcases h with h | ⟨a0, h⟩
        · exact absurd h hn
        · exact .inl ⟨a0, h⟩)
  refine ⟨fun i m H' => ∃ G' acc, i + m = xs.length ∧ StT G0 H0 bs G' (flt H') σ τ ∧ Tabs T H' ∧ Same G1 G' ∧ G' D = none ∧ H' D = some (.lst acc) ∧ Reps G' acc ((List.range i).filterMap F), ⟨xs.length, G1, [], by omega, by rw [fD]; exact s1.lay hDf, tD t1 (.inl hD), Same.refl _, s1.sub.free hDf, upd_same, .nil⟩, ?_⟩
  rintro i m H' ⟨G', acc, hm, s', t', g1, gD, hDl, hacc⟩
  obtain ⟨y1, y2⟩ := hJ i G' H' g1 s'.subJ
  by_cases hl : i < xs.length
  · obtain ⟨go, yl⟩ := y1 xs[i] (List.getElem?_eq_getElem hl)
    have hF := hs i _ (List.getElem?_eq_getElem hl)
    refine .inr ⟨go, fun H3 => ∃ G3 acc3, StT G0 H0 bs G3 (flt H3) σ τ ∧ Tabs T H3 ∧ Same G1 G3 ∧ G3 D = none ∧ H3 D = some (.lst acc3) ∧ Reps G3 acc3 ((List.range (i + 1)).filterMap F), fun H3 ⟨G3, acc3, z1, z2, z3, z4, z5, z6⟩ => ⟨m - 1, by omega, G3, acc3, by omega, z1, z2, z3, z4, z5, z6⟩, fun v H2 hy => ?_⟩
    obtain ⟨G2, g2, r2⟩ := yl v H2 hy
    obtain ⟨s2, k2⟩ := s'.grJ g2
    have t2 := tabs_gr t' g2
    have hD2 : H2 D = some (.lst acc) := g2.h _ _ hDl
    have hD2f : flt H2 D = some (.lst acc) := flt_of hD2 fun _ z => by cases z
    have gD2 : (flt G2) D = none := flt_none ((g2.old D _ hDl).trans gD)
    have s3 := (s2.lend.wiped [j]).set j r2.flt
    rw [mutsN hv, lentN hv] at s3
    rw [show ((wipeT τ [j]).set j (some (Sl.val xs[i]))) = τ.set j (some (.val xs[i])) from wiped_set] at s3
    have w4 : wipe ((wipe σ [j]).set j (some v)) [j] = wipe σ [j] := by
      refine wipe_eq (by rw [List.length_set, wipe_len]) fun k hk => ?_
      rw [List.getElem?_set_ne (fun z => hk (by simp [z])), wipe_get hk]
    have bk : ∀ {G3 H3 : Hp}, StT (flt G2) (flt H2) [] G3 (flt H3) ((wipe σ [j]).set j (some v)) (τ.set j (some (.val xs[i]))) → StT G0 H0 bs G3 (flt H3) σ τ := fun {G3 H3} s5 => by
      refine s2.back (vs := [j]) (τ' := τ) (by rw [mutsN hv]; exact s5) w4 (Shp.refl _) (fun k _ o c => hv k o c) fun k hk => ?_
      rw [lentN hv, List.getElem?_set_ne (fun z => hk (by simp [z]))]
    refine ⟨w4, ?_⟩
    cases hFi : F i with
    | none =>
      rw [hFi] at hF
      refine hF _ _ _ _ _ _ s3 t2 _ fun G3 H3 s5 t5 e5 => ?_
      show ∃ G3 acc3, _
      have d5 := s5.h D _ hD2f (by simp)
      refine ⟨G3, acc, bk s5, t5, (g1.trans k2).trans e5, (s5.old D _ hD2f).trans gD2, flt_sub _ _ _ d5, ?_⟩
      rw [range_fm, hFi, List.append_nil]
      exact (hacc.mono k2).mono e5
    | some y =>
      rw [hFi] at hF
      refine hF.1 _ _ _ _ _ _ s3 t2 _ fun G3 H3 s5 t5 e5 => ?_
      show te _ H3 _
      refine hF.2 _ _ _ _ _ _ s5 t5 _ fun w G4 H4 s6 t6 e6 r6 => ?_
      have hD4 : H4 D = some (.lst acc) := flt_sub _ _ _ (s6.h D _ hD2f (by simp))
      have gD4 : G4 D = none := (s6.old D _ hD2f).trans gD2
      refine ⟨acc, hD4, ?_, ?_⟩
      · rw [hacc.length]
        refine Nat.lt_of_le_of_lt (List.length_filterMap_le _ _) ?_
        rw [List.length_range]
        exact Nat.lt_of_lt_of_le hl (Nat.le_trans hz (by decide))
      · refine ⟨G4, acc ++ [w], ?_, tD t6 (.inr ⟨_, hD4⟩), ((g1.trans k2).trans e5).trans e6, gD4, upd_same, ?_⟩
        · rw [fD]
          exact (bk s6).upD h0D gD4 nwD
        · rw [range_fm, hFi]
          exact (((hacc.mono k2).mono e5).mono e6).snoc r6
  · have e : i = xs.length := by omega
    subst e
    refine .inl ⟨y2 rfl, ?_⟩
    have nG : Same G' (upd G' D (.lst acc)) := fun b u z => by rw [upd_ne (ne_of_none z gD)]; exact z
    have hDlf : flt H' D = some (.lst acc) := flt_of hDl fun _ z => by cases z
    refine q (.ref D) (upd G' D (.lst acc)) H' ?_ t' ((e1.trans g1).trans nG) (.lst upd_same (hacc.mono nG))
    refine ⟨s'.g.trans nG, s'.h, s'.hn, fun b u z => ?_, fun b u z => ?_, s'.bor, s'.len, fun i t z => ?_, s'.dis⟩
    · by_cases hb : b = D
      · subst hb; rw [upd_same] at z; cases z; exact hDlf
      · rw [upd_ne hb] at z; exact s'.sub b u z
    · rw [upd_ne (ne_of_none z h0D)]; exact s'.old b u z
    · obtain ⟨v, z1, z2⟩ := s'.env i t z
      refine ⟨v, z1, ?_⟩
      cases t with
      | val y => exact Rep.mono nG z2
      | mu o c => exact absurd z (hv i o c)
end
section
variable {T : List (Addr × Str)} {τ τ1 τ2 : TEnv} {te : TE} {tt uu : TT} {ta : TA} {x y : PV} {b : Bool} {P : PostJ}
theorem ebj_or (h : EbJ T tt τ false τ1) (h2 : EbJ T uu τ1 b τ2) : EbJ T (tOr tt uu) τ b τ2 := fun _ _ _ _ G H s t Q q => h _ _ _ _ _ _ s t _ fun G1 H1 s1 t1 e1 =>
  h2 _ _ _ _ _ _ s1 t1 _ fun G2 H2 s2 t2 e2 => q G2 H2 s2 t2 (e1.trans e2)
theorem ebj_test (h : EvJ T te τ (.bl b) τ1) : EbJ T (tTest te) τ b τ1 := fun _ _ _ _ G H s t Q q => h _ _ _ _ _ _ s t _ fun v G1 H1 s1 t1 e1 r1 => by
  cases r1
  exact ⟨b, rfl, q G1 H1 s1 t1 e1⟩
theorem ebj_yes : EbJ T tYes τ true τ := fun _ _ _ _ G H s t Q q => q G H s t (Same.refl _)
theorem xj_par {i j : Nat} {tr : TA} (h : EaJ T tr τ [x, y] τ1) (q : P.nx ((τ1.set i (some (.val x))).set j (some (.val y)))) : ExJ T (tPar i j tr) τ P := fun G0 H0 bs σ G H D s tb hn hr =>
  h _ _ _ _ _ _ s tb _ fun vs G1 H1 s1 t1 e1 r1 => by
    cases r1 with
    | cons a1 r2 =>
      cases r2 with
      | cons a2 r3 =>
        cases r3
        exact ⟨_, _, rfl, hn _ _ G1 H1 q ((s1.set i a1).set j a2) t1⟩
theorem fm_all {α : Type} {l : List α} {F : α → PV} : (List.range l.length).filterMap (fun i => (l[i]?).map F) = l.map F := by
  induction l with
  | nil => rfl
  | cons a l ih =>
    rw [List.length_cons, List.range_succ_eq_map, List.filterMap_cons, List.filterMap_map]
    show F a :: _ = F a :: _
    congr 1
/-- each element its own turn -/
theorem ej_map {α : Type} {wi : TI} {j : Nat} {te : TE} (l : List α) (g F : α → PV) (hv : ∀ (k : Nat) (o : Bool) (c : Cell), τ[k]? ≠ some (some (.mu o c))) (hi : ItJ T wi τ (l.map g)) (hz : l.length ≤ 100000)
    (hs : ∀ a, a ∈ l → EvJ T te (τ.set j (some (.val (g a)))) (F a) (τ.set j (some (.val (g a))))) : EvJ T (tLc wi (gName j) tYes te [j]) τ (.lst (l.map F)) τ := by
  have key := ej_lc (j := j) (tt := tYes) (te := te) (fun i => (l[i]?).map F) hv hi (by rw [List.length_map]; exact hz) (fun i x hx => by
    rw [List.getElem?_map] at hx
    cases ha : l[i]? with
    | none => rw [ha] at hx; cases hx
    | some a =>
      rw [ha] at hx
      cases hx
      exact ⟨ebj_yes, hs a (List.mem_of_getElem? ha)⟩)
  rw [List.length_map, fm_all] at key
  exact key
/-- no element passes -/
theorem ej_no {wi : TI} {j : Nat} {te : TE} {xs : List PV} (hv : ∀ (k : Nat) (o : Bool) (c : Cell), τ[k]? ≠ some (some (.mu o c))) (hi : ItJ T wi τ xs) (hz : xs.length ≤ 100000)
    (hs : ∀ x, x ∈ xs → EbJ T tt (τ.set j (some (.val x))) false (τ.set j (some (.val x)))) : EvJ T (tLc wi (gName j) tt te [j]) τ (.lst []) τ := by
  have key := ej_lc (j := j) (tt := tt) (te := te) (fun _ => none) hv hi hz (fun i x hx => hs x (List.mem_of_getElem? hx))
  have e : ∀ n : Nat, (List.range n).filterMap (fun _ => (none : Option PV)) = [] := fun n => by
    induction (List.range n) with
    | nil => rfl
    | cons a l ih => exact ih
  rw [e] at key
  exact key
end
end TLy
end
section
set_option maxRecDepth 100000
set_option maxHeartbeats 1000000
/-! text * number, one sign -/
namespace TLy
open PySem PySem.Spec PyProof.Rows L2
theorem rep1 (c : Nat) : ∀ n : Nat, (List.replicate n (S [c]).cps).foldl (· ++ ·) (#[] : Array Nat) = (List.replicate n c).toArray := by
  have key : ∀ (n : Nat) (a : Array Nat), (List.replicate n (S [c]).cps).foldl (· ++ ·) a = a ++ (List.replicate n c).toArray := fun n => by
    induction n with
    | zero => intro a; simp
    | succ n ih =>
      intro a
      rw [List.replicate_succ, List.foldl_cons, ih, List.replicate_succ]
      apply Array.ext'
      simp
  intro n
  rw [key]
  simp
def rRepS : R2 := fun x y H Q => ∃ (z : Str) (k : Int), x = .str z ∧ y = .int k ∧ 2 ≤ k ∧ k ≤ 100000 ∧ z.length = 1 ∧ Q (.str ⟨(List.replicate k.toNat z.cps).foldl (· ++ ·) #[]⟩) H
theorem op_repS {X : Cx} : OpR X (binaryOp .Mult) rRepS := by
  intro pins s σ H x y v u Q I rx ry h
  obtain ⟨z, k, rfl, rfl, h1, h2, hz, q⟩ := h
  obtain ⟨t1, rfl⟩ := rx
  obtain ⟨t2, rfl⟩ := ry
  have e1 : ¬ k < 1 := by omega
  have e2 : (k == 1 || z.length == 0) = false := by
    rw [hz]
    simp
    omega
  refine PySem.P.mul_str ?_ (fun _ _ => ?_) (fun _ _ => ?_) ?_
  · rw [decide_eq_false (by omega), decide_eq_false (by omega)]
    rfl
  · rw [hz]
    have : (1 : Int) ≤ (2 ^ 63 - 1) / k := by
      rw [Int.le_ediv_iff_mul_le (by omega)]
      omega
    omega
  · rw [hz]
    show decide (1 * k.toNat > sizeLine) = false
    have : k.toNat ≤ sizeLine := small (by omega)
    exact decide_eq_false (by omega)
  · rw [if_neg e1, e2, if_neg Bool.false_ne_true]
    refine ⟨?_, .str _, H, I.tok _, ⟨_, rfl⟩, q⟩
    obtain ⟨c, rfl⟩ : ∃ c, z = S [c] := by
      have hl : z.cps.toList.length = 1 := by simpa [Str.length] using hz
      match hm : z.cps.toList, hl with
      | [c], _ => exact ⟨c, by rw [S_of z, hm]⟩
    rw [rep1]
    show (List.replicate k.toNat c).toArray.size ≤ _
    rw [List.size_toArray, List.length_replicate]
    exact small (by omega)
theorem r_repS {c : Nat} {k : Int} (h1 : 2 ≤ k) (h2 : k ≤ 100000) : RvR rRepS (.str (S [c])) (.int k) (.str (S (List.replicate k.toNat c))) := fun G H e v u r1 r2 => by
  cases r1
  cases r2
  refine Rv.ret e (.str _) fun Q q => ⟨S [c], k, rfl, rfl, h1, h2, rfl, ?_⟩
  rw [rep1]
  exact q
end TLy
end
section
set_option maxRecDepth 100000
set_option maxHeartbeats 1000000
/-! what is written as it stands -/
namespace TLy
open PySem PySem.Spec PyProof.Rows L2
abbrev rNegU : V → Hp → VK → Prop := (fun x H Q => ∃ i, x = .int i ∧ Q (.int (-i)) H)
mutual
/-- the reading of a literal -/
def litE : PV → TE
  | .non => tC .non
  | .bl b => tC (.bl b)
  | .int (.ofNat n) => tC (.int n)
  | .int (.negSucc n) => tUn rNegU (tC (.int ((n + 1 : Nat) : Int)))
  | .str s => tC (.str s)
  | .ty n => tC (.ty n)
  | .tup l => tTup (litA l)
  | .lst l => tLst (litA l)
def litA : List PV → TA
  | [] => tNil
  | x :: l => tCons (litE x) (litA l)
end
mutual
def litSz : PV → Bool
  | .tup l => decide (l.length ≤ 1000) && litSzs l
  | .lst l => decide (l.length ≤ 1000) && litSzs l
  | _ => true
def litSzs : List PV → Bool
  | [] => true
  | x :: l => litSz x && litSzs l
end
mutual
theorem ev_lit {τ : TEnv} : ∀ {x : PV}, litSz x = true → EvR (litE x) τ x τ
  | .non, _ => by rw [litE]; exact ev_non
  | .bl b, _ => by rw [litE]; exact ev_bl
  | .int (.ofNat n), _ => by rw [litE]; exact ev_int
  | .int (.negSucc n), _ => by rw [litE]; exact ev_un ev_int u_neg
  | .str s, _ => by rw [litE]; exact ev_str
  | .ty n, _ => by rw [litE]; exact ev_ty
  | .tup l, h => by
    rw [litE]
    rw [litSz, Bool.and_eq_true, decide_eq_true_eq] at h
    exact ev_tup (ea_lit h.2) (by omega)
  | .lst l, h => by
    rw [litE]
    rw [litSz, Bool.and_eq_true, decide_eq_true_eq] at h
    exact ev_new (en_lst (ea_lit h.2) (by omega))
theorem ea_lit {τ : TEnv} : ∀ {l : List PV}, litSzs l = true → EvA (litA l) τ l τ
  | [], _ => by rw [litA]; exact ea_nil
  | x :: l, h => by
    rw [litA]
    rw [litSzs, Bool.and_eq_true] at h
    exact ea_cons (ev_lit h.1) (ea_lit h.2)
end
end TLy
end
section
set_option maxRecDepth 100000
set_option maxHeartbeats 1000000
/-! the texts that _law_written_right names -/
namespace K10
open PySem TLy TL NumText
def tW : List (List Nat × Option PV) := [
  ([], none),
  ([63], some (.non)),
  ([63, 63], none),
  ([48], some (.int (0))),
  ([48, 48], none),
  ([45, 48], none),
  ([45, 49], some (.int (-1))),
  ([45, 45, 49], none),
  ([48, 49], none),
  ([43, 49], none),
  ([32, 49], none),
  ([49, 32], none),
  ([61, 48, 58], some (.str (S []))),
  ([61, 49, 58], none),
  ([61, 49, 58, 97], some (.str (S [97]))),
  ([61, 48, 49, 58, 97], none),
  ([61, 49, 58, 97, 98], none),
  ([61, 58], none),
  ([61, 50, 58, 10, 126], some (.str (S [10, 126]))),
  ([61, 49, 58, 60], some (.str (S [60]))),
  ([61, 45, 49, 58, 97], none),
  ([49, 46, 48], none),
  ([60, 62], some (.tup [])),
  ([60], none),
  ([62], none),
  ([60, 44, 62], none),
  ([60, 63, 44, 62], none),
  ([60, 44, 63, 62], none),
  ([60, 63, 44, 63, 62], some (.tup [.non, .non])),
  ([60, 63, 59, 63, 62], none),
  ([60, 63, 32, 62], none),
  ([60, 60, 62, 62], some (.tup [.tup []])),
  ([60, 60, 62, 44, 60, 62, 62], some (.tup [.tup [], .tup []])),
  ([60, 62, 60, 62], none),
  ([60, 61, 49, 58, 62, 62], some (.tup [.str (S [62])])),
  ([60, 61, 49, 58, 62, 44, 48, 62], some (.tup [.str (S [62]), .int (0)])),
  ([60, 48], none),
  ([60, 61, 53, 58, 48, 44, 63, 62, 62], none),
  ([60, 45, 44, 49, 62], none)]
theorem readT_none {t : List Nat} (h : (readT t).isNone = true) : readT t = none := by
  cases e : readT t with
  | none => rfl
  | some x => rw [e] at h; cases h
theorem tW_ok : ∀ p ∈ tW, readT p.1 = p.2 := by
  intro p hp
  simp only [tW, List.mem_cons, List.not_mem_nil, or_false] at hp
  rcases hp with rfl | rfl | rfl | rfl | rfl | rfl | rfl | rfl | rfl | rfl | rfl | rfl | rfl | rfl | rfl | rfl | rfl | rfl | rfl | rfl | rfl | rfl | rfl | rfl | rfl | rfl | rfl | rfl | rfl | rfl | rfl | rfl | rfl | rfl | rfl | rfl | rfl | rfl | rfl
  · exact readT_none (by decide +kernel)
  · exact readT_iff.mpr ⟨by decide +kernel, by decide +kernel⟩
  · exact readT_none (by decide +kernel)
  · exact readT_iff.mpr ⟨by decide +kernel, by decide +kernel⟩
  · exact readT_none (by decide +kernel)
  · exact readT_none (by decide +kernel)
  · exact readT_iff.mpr ⟨by decide +kernel, by decide +kernel⟩
  · exact readT_none (by decide +kernel)
  · exact readT_none (by decide +kernel)
  · exact readT_none (by decide +kernel)
  · exact readT_none (by decide +kernel)
  · exact readT_none (by decide +kernel)
  · exact readT_iff.mpr ⟨by decide +kernel, by decide +kernel⟩
  · exact readT_none (by decide +kernel)
  · exact readT_iff.mpr ⟨by decide +kernel, by decide +kernel⟩
  · exact readT_none (by decide +kernel)
  · exact readT_none (by decide +kernel)
  · exact readT_none (by decide +kernel)
  · exact readT_iff.mpr ⟨by decide +kernel, by decide +kernel⟩
  · exact readT_iff.mpr ⟨by decide +kernel, by decide +kernel⟩
  · exact readT_none (by decide +kernel)
  · exact readT_none (by decide +kernel)
  · exact readT_iff.mpr ⟨by decide +kernel, by decide +kernel⟩
  · exact readT_none (by decide +kernel)
  · exact readT_none (by decide +kernel)
  · exact readT_none (by decide +kernel)
  · exact readT_none (by decide +kernel)
  · exact readT_none (by decide +kernel)
  · exact readT_iff.mpr ⟨by decide +kernel, by decide +kernel⟩
  · exact readT_none (by decide +kernel)
  · exact readT_none (by decide +kernel)
  · exact readT_iff.mpr ⟨by decide +kernel, by decide +kernel⟩
  · exact readT_iff.mpr ⟨by decide +kernel, by decide +kernel⟩
  · exact readT_none (by decide +kernel)
  · exact readT_iff.mpr ⟨by decide +kernel, by decide +kernel⟩
  · exact readT_iff.mpr ⟨by decide +kernel, by decide +kernel⟩
  · exact readT_none (by decide +kernel)
  · exact readT_none (by decide +kernel)
  · exact readT_none (by decide +kernel)
theorem tW_len : ∀ p ∈ tW, p.1.length ≤ 100 ∧ (p.1.all fun c => decide (c ≠ 37) && decide (c < 128)) = true := by decide +kernel
end K10
end
section
set_option maxRecDepth 100000
set_option maxHeartbeats 1000000
/-! the long texts that _law_written_right names -/
namespace K10
open PySem TLy TL NumText
theorem readT_none' {t : List Nat} (h : (readT t).isNone = true) : readT t = none := by
  cases e : readT t with
  | none => rfl
  | some x => rw [e] at h; cases h
def deepL : List Nat := List.replicate 20 60 ++ List.replicate 20 62
def nest : Nat → PV
  | 0 => .tup []
  | n + 1 => .tup [nest n]
def nines : List Nat := List.replicate 200 57
theorem nines_val : digitsVal nines = 10 ^ 200 - 1 := by decide +kernel
theorem numL_most : numL (10 ^ 200 - 1) = nines := by
  rw [← nines_val]
  refine numL_back 200 nines (by decide) (by decide) (by decide) (.inr (by decide))
theorem intL_most : intL (MOSTv - 1) = nines := by
  have h : (MOSTv - 1).natAbs = 10 ^ 200 - 1 := by decide +kernel
  have h2 : ¬ (MOSTv - 1 < 0) := by decide +kernel
  unfold intL
  rw [if_neg h2, h, numL_most]
theorem intL_least : intL (1 - MOSTv) = 45 :: nines := by
  have h : (1 - MOSTv).natAbs = 10 ^ 200 - 1 := by decide +kernel
  have h2 : 1 - MOSTv < 0 := by decide +kernel
  unfold intL
  rw [if_pos h2, h, numL_most]
theorem rd_deep : readT deepL = some (nest 19) := readT_iff.mpr ⟨by decide +kernel, by decide +kernel⟩
theorem rd_over : readT ([60] ++ deepL ++ [62]) = none := readT_none' (by decide +kernel)
theorem rd_most : readT nines = some (.int (MOSTv - 1)) := readT_iff.mpr ⟨by rw [isTh_int]; decide +kernel, intL_most⟩
theorem rd_least : readT ([45] ++ nines) = some (.int (1 - MOSTv)) := readT_iff.mpr ⟨by rw [isTh_int]; decide +kernel, intL_least⟩
theorem rd_most0 : readT (nines ++ [48]) = none := readT_none' (by decide +kernel)
theorem rd_ten : readT ([49] ++ List.replicate 200 48) = none := readT_none' (by decide +kernel)
theorem aTh {n : Nat} (h : n ≤ 2000) (k : Nat) : isTh k (.str (S (List.replicate n 97))) = true := by
  rw [isTh_str, Bool.and_eq_true, decide_eq_true_eq, List.all_eq_true]
  refine ⟨by rw [S_len, List.length_replicate]; exact h, fun c hc => ?_⟩
  rw [(List.mem_replicate.mp hc).2]
  decide
theorem rd_a2000 : readT ([61, 50, 48, 48, 48, 58] ++ List.replicate 2000 97) = some (.str (S (List.replicate 2000 97))) := readT_iff.mpr ⟨aTh (Nat.le_refl _) 20, by
  show 61 :: (numL (S (List.replicate 2000 97)).length ++ 58 :: List.replicate 2000 97) = _
  rw [S_len, List.length_replicate, show numL 2000 = [50, 48, 48, 48] by decide +kernel]
  rfl⟩
theorem rd_a2001 : readT ([61, 50, 48, 48, 49, 58] ++ List.replicate 2001 97) = none := readT_none' (by decide +kernel)
/-- the parts -/
def partsP : PV := .tup (List.replicate 29 (.str (S (List.replicate 2000 97))))
theorem parts_th (k : Nat) : isTh (k + 1) partsP = true := isThs_of fun x hx => by
  rw [(List.mem_replicate.mp hx).2]
  exact aTh (Nat.le_refl _) k
end K10
end
section
set_option maxRecDepth 100000
set_option maxHeartbeats 1000000
namespace K10
open PySem PySem.Spec L2 TLy TL NumText
def oddsL : List (List Nat) := [[60] ++ deepL ++ [62], deepL, nines, [45] ++ nines, nines ++ [48], [49] ++ List.replicate 200 48, [61, 50, 48, 48, 48, 58] ++ List.replicate 2000 97, [61, 50, 48, 48, 49, 58] ++ List.replicate 2001 97]
/-- what is read, what _law_told answers, whether that is 'text' -/
def tbl7 : List (PV × PV × Bool) := [(.str (S ([60] ++ deepL ++ [62])), .str "text", true), (.str (S deepL), .lst [nest 19], false), (.str (S nines), .lst [.int (MOSTv - 1)], false), (.str (S ([45] ++ nines)), .lst [.int (1 - MOSTv)], false),
  (.str (S (nines ++ [48])), .str "text", true), (.str (S ([49] ++ List.replicate 200 48)), .str "text", true), (.str (S ([61, 50, 48, 48, 48, 58] ++ List.replicate 2000 97)), .lst [.str (S (List.replicate 2000 97))], false),
  (.str (S ([61, 50, 48, 48, 49, 58] ++ List.replicate 2001 97)), .str "text", true), (.non, .str "text", true), (.int 1, .str "text", true), (.tup [.str "?"], .str "text", true), (.lst [.str "?"], .str "text", true)]
def sizeOk : PV → Bool
  | .str s => decide (s.length ≤ 60000)
  | .ty _ => false
  | _ => true
theorem told_some {a : Nat → Addr} {t : List Nat} {x : PV} (h : readT t = some x) (hl : t.length ≤ 60000) : ToldIs a (resx (a 2) (readV (.str (S t)))) (.lst [x]) := by
  rw [show readV (.str (S t)) = readT t from if_pos (by rw [S_len]; exact hl), h]
  exact .val x
theorem told_none {a : Nat → Addr} {t : List Nat} (h : readT t = none) (hl : t.length ≤ 60000) : ToldIs a (resx (a 2) (readV (.str (S t)))) (.str "text") := by
  rw [show readV (.str (S t)) = readT t from if_pos (by rw [S_len]; exact hl), h]
  exact .text
theorem tbl7_ok {a : Nat → Addr} : ∀ p ∈ tbl7, ToldIs a (resx (a 2) (readV p.1)) p.2.1 := by
  intro p hp
  simp only [tbl7, List.mem_cons, List.not_mem_nil, or_false] at hp
  rcases hp with rfl | rfl | rfl | rfl | rfl | rfl | rfl | rfl | rfl | rfl | rfl | rfl
  · exact told_none rd_over (by decide +kernel)
  · exact told_some rd_deep (by decide +kernel)
  · exact told_some rd_most (by decide +kernel)
  · exact told_some rd_least (by decide +kernel)
  · exact told_none rd_most0 (by decide +kernel)
  · exact told_none rd_ten (by decide +kernel)
  · exact told_some rd_a2000 (by decide +kernel)
  · exact told_none rd_a2001 (by decide +kernel)
  all_goals exact .text
theorem tbl7_sz : ∀ p ∈ tbl7, sizeOk p.1 = true := by decide +kernel
mutual
theorem th_lay : ∀ {n : Nat} {x : PV}, isTh n x = true → (pd x).canLay0 = true ∧ (pd x).depth ≤ n + 1 ∧ isD x = true
  | n, .non, _ => ⟨rfl, by simp [pd, PyData.depth], rfl⟩
  | n, .int i, _ => ⟨rfl, by simp [pd, PyData.depth], rfl⟩
  | n, .str s, h => by
    rw [isTh_str, Bool.and_eq_true, List.all_eq_true] at h
    refine ⟨?_, by simp [pd, PyData.depth], rfl⟩
    show PyData.strOk s = true
    unfold PyData.strOk
    rw [← Array.all_toList, List.all_eq_true]
    intro c hc
    have := sign_ok (h.2 c hc)
    exact decide_eq_true (by omega)
  | n, .bl b, h => by rw [isTh_bl] at h; cases h
  | n, .lst l, h => by rw [isTh_lst] at h; cases h
  | n, .ty m, h => by cases n <;> cases h
  | 0, .tup l, h => by cases h
  | n + 1, .tup l, h => by
    have h : isThs n l = true := h
    obtain ⟨g1, g2, g3⟩ := ths_lay h
    refine ⟨?_, ?_, g3⟩
    · show PyData.canLay0 (.tuple (pds l)) = true
      simp only [PyData.canLay0]
      exact g1
    · show PyData.depth (.tuple (pds l)) ≤ n + 1 + 1
      simp only [PyData.depth]
      omega
theorem ths_lay : ∀ {n : Nat} {l : List PV}, isThs n l = true → PyData.canLayAll0 (pds l) = true ∧ PyData.depthAll (pds l) ≤ n + 1 ∧ isDs l = true
  | _, [], _ => ⟨rfl, by simp [pds, PyData.depthAll], rfl⟩
  | n, x :: l, h => by
    have h : (isTh n x && isThs n l) = true := h
    rw [Bool.and_eq_true] at h
    obtain ⟨h1, h2, h3⟩ := th_lay h.1
    obtain ⟨g1, g2, g3⟩ := ths_lay h.2
    refine ⟨?_, ?_, ?_⟩
    · show PyData.canLayAll0 (pd x :: pds l) = true
      simp only [PyData.canLayAll0, h1, g1, Bool.and_self]
    · show PyData.depthAll (pd x :: pds l) ≤ n + 1
      simp only [PyData.depthAll]
      omega
    · show (isD x && isDs l) = true
      rw [h3, g3]
      rfl
end
theorem one_eq {x : PV} (h : isTh 20 x = true) : isD (.lst [x]) = true ∧ SeqAt.shaped (pd (.lst [x])) = true ∧ PyData.eqv (pd (.lst [x])) (pd (.str "text")) = false := by
  obtain ⟨h1, h2, h3⟩ := th_lay h
  refine ⟨?_, ?_, ?_⟩
  · show (isD x && true) = true
    rw [h3]; rfl
  · show ((PyData.list [pd x]).canLay0 && decide ((PyData.list [pd x]).depth ≤ 64)) = true
    rw [Bool.and_eq_true]
    refine ⟨by simp only [PyData.canLay0, PyData.canLayAll0, h1, Bool.and_self], decide_eq_true ?_⟩
    simp only [PyData.depth, PyData.depthAll]
    omega
  · show PyData.eqv (.list [pd x]) (.str "text") = false
    simp [PyData.eqv]
theorem text_eq : isD (.str "text") = true ∧ SeqAt.shaped (pd (.str "text")) = true ∧ PyData.eqv (pd (.str "text")) (pd (.str "text")) = true := by
  have hs : PyData.strOk "text" = true := by decide +kernel
  have h1 : (pd (.str "text")).canLay0 = true := hs
  refine ⟨rfl, ?_, SeqAt.eqv_refl _ h1⟩
  show ((pd (.str "text")).canLay0 && decide ((pd (.str "text")).depth ≤ 64)) = true
  rw [h1, Bool.true_and]
  refine decide_eq_true ?_
  simp [pd, PyData.depth]
theorem tbl7_eq : ∀ p ∈ tbl7, isD p.2.1 = true ∧ SeqAt.shaped (pd p.2.1) = true ∧ PyData.eqv (pd p.2.1) (pd (.str "text")) = p.2.2 := by
  intro p hp
  simp only [tbl7, List.mem_cons, List.not_mem_nil, or_false] at hp
  rcases hp with rfl | rfl | rfl | rfl | rfl | rfl | rfl | rfl | rfl | rfl | rfl | rfl
  · exact text_eq
  · exact one_eq (readT_iff.mp rd_deep).1
  · exact one_eq (readT_iff.mp rd_most).1
  · exact one_eq (readT_iff.mp rd_least).1
  · exact text_eq
  · exact text_eq
  · exact one_eq (readT_iff.mp rd_a2000).1
  all_goals exact text_eq
theorem joinC_rep (l : List Nat) : ∀ n, (joinC (List.replicate (n + 1) l)).length = (n + 1) * l.length + n
  | 0 => by show l.length = _; omega
  | n + 1 => by
    show (l ++ 44 :: joinC (List.replicate (n + 1) l)).length = _
    rw [List.length_append, List.length_cons, joinC_rep l n]
    rw [Nat.add_mul (n + 1) 1]
    omega
theorem part_len : (txt (.str (S (List.replicate 2000 97)))).length = 2006 := by
  show (61 :: (numL (S (List.replicate 2000 97)).length ++ 58 :: List.replicate 2000 97)).length = _
  rw [S_len, List.length_replicate, show numL 2000 = [50, 48, 48, 48] by decide +kernel]
  simp
theorem rep_len (n : Nat) : (txt (.tup (List.replicate (n + 1) (.str (S (List.replicate 2000 97)))))).length = (n + 1) * 2006 + n + 2 := by
  show (60 :: (joinC (txts (List.replicate (n + 1) (.str (S (List.replicate 2000 97))))) ++ [62])).length = _
  rw [txts_map, List.map_replicate, List.length_cons, List.length_append, joinC_rep, part_len]
  rfl
theorem parts_len : (txt partsP).length = 58204 := rep_len 28
end K10
end
section
set_option maxRecDepth 100000
set_option maxHeartbeats 1000000
namespace K10
open PySem PySem.Spec PyProof.Rows L2 TLy TL NumText LamX
/-! steps, one by one -/
local macro_rules | `(tactic| walk_at "ev") => `(tactic| first
  | exact ev_var rfl
  | exact ev_int
  | exact ev_str
  | exact ev_bl
  | exact ev_non
  | exact ev_ty
  | exact ea_nil
  | exact eo_none
  | exact r_add
  | exact r_sub
  | exact r_lt
  | exact r_le
  | exact r_gt
  | exact r_ge
  | exact r_eqI
  | exact r_neI
  | exact r_eqS
  | exact r_neS
  | exact r_leS
  | exact r_inSign
  | exact r_isN
  | exact r_notN
  | exact u_neg
  | exact c_intI
  | exact c_abs
  | exact c_ord
  | exact c_lenT
  | exact c_lenL
  | exact c_all
  | exact Nat.le_of_ble_eq_true rfl
  | exact c_tupL
  | exact c_lstL
  | exact c_lstT
  | exact u_slT
  | exact u_slL
  | exact tg_name
  | exact tgs_nil
  | ((with_reducible refine' ev_lenM ?_) <;> rfl)
  | ((with_reducible refine' ev_op ?_ ?_ ?_) <;> try walk_at "ev")
  | ((with_reducible refine' ev_un ?_ ?_) <;> try walk_at "ev")
  | ((with_reducible refine' ea_cons ?_ ?_) <;> try walk_at "ev")
  | ((with_reducible refine' eo_some ?_) <;> try walk_at "ev")
  | ((with_reducible refine' ev_cb ?_ ?_) <;> try walk_at "ev")
  | ((with_reducible refine' ev_sl ?_ ?_ ?_ ?_) <;> try walk_at "ev")
  | ((with_reducible refine' ev_chain ?_ ?_ ?_ ?_ ?_) <;> try walk_at "ev")
  | ((with_reducible refine' eb_test ?_) <;> try walk_at "ev")
  | ((with_reducible refine' eb_B ?_) <;> try walk_at "ev")
  | ((with_reducible refine' eb_not ?_) <;> try walk_at "ev")
  | ((with_reducible refine' eb_andP ?_ ?_) <;> try walk_at "ev")
  | ((with_reducible refine' eb_orP ?_ ?_) <;> try walk_at "ev")
  | ((with_reducible refine' ev_andP ?_ ?_) <;> try walk_at "ev")
  | ((with_reducible refine' ev_orP ?_ ?_) <;> try walk_at "ev")
  | ((with_reducible refine' ev_notP ?_) <;> try walk_at "ev")
  | ((with_reducible refine' ev_tup ?_ ?_) <;> try walk_at "ev")
  | ((with_reducible refine' ev_lst ?_ ?_) <;> try walk_at "ev")
  | ((with_reducible refine' ev_call ?_ ?_) <;> first | assumption | walk_at "ev" | skip)
  | ((with_reducible refine' tg_tup ?_ ?_) <;> try walk_at "ev")
  | ((with_reducible refine' tgs_cons ?_ ?_) <;> try walk_at "ev")
  | (refine' r_mul ?_)
  | (refine' r_modN ?_)
  | (refine' r_fdivN ?_)
  | (refine' r_pow ?_)
  | (refine' r_addS ?_)
  | (refine' r_catT ?_)
  | (refine' r_catL ?_)
  | (refine' r_ixT ?_)
  | (refine' r_ixL ?_)
  | (refine' r_ixS ?_ ?_ <;> first | exact len_sz (by omega) | exact at_get _ _ (by assumption) | skip)
  | (refine' u_slS ?_ <;> first | exact len_sz (by omega) | skip)
  | (refine' c_lenS ?_ <;> first | exact len_sz (by omega) | skip)
  | (refine' c_strI ?_)
  | (refine' c_intS ?_ ?_)
  | with_reducible exact isi_NB
  | with_reducible exact isi_NI
  | with_reducible exact isi_NS
  | with_reducible exact isi_NT
  | with_reducible exact isi_NL
  | with_reducible exact isi_BB
  | with_reducible exact isi_BI
  | with_reducible exact isi_BS
  | with_reducible exact isi_BT
  | with_reducible exact isi_BL
  | with_reducible exact isi_IB
  | with_reducible exact isi_II
  | with_reducible exact isi_IS
  | with_reducible exact isi_IT
  | with_reducible exact isi_IL
  | with_reducible exact isi_SB
  | with_reducible exact isi_SI
  | with_reducible exact isi_SS
  | with_reducible exact isi_ST
  | with_reducible exact isi_SL
  | with_reducible exact isi_TB
  | with_reducible exact isi_TI
  | with_reducible exact isi_TS
  | with_reducible exact isi_TT
  | with_reducible exact isi_TL
  | with_reducible exact isi_LB
  | with_reducible exact isi_LI
  | with_reducible exact isi_LS
  | with_reducible exact isi_LT
  | with_reducible exact isi_LL
  | (refine' r_eqD ?_ ?_ ?_ ?_)
  | (refine' r_neD ?_ ?_ ?_ ?_)
  | (intro _h; walk_at "ev"))

def dueP (p : List Nat × Option PV) : PV := match p.2 with
  | none => .str "text"
  | some x => .lst [x]
def txtP (p : List Nat × Option PV) : PV := .str (S p.1)
def tA : List (List Nat × Option PV) := tW.take 22
def tB : List (List Nat × Option PV) := tW.drop 22
def noMu (τ : TEnv) : Bool := τ.all fun s => match s with
  | some (.mu _ _) => false
  | _ => true
theorem hv_of {τ : TEnv} (h : noMu τ = true) : ∀ (k : Nat) (o : Bool) (c : Cell), τ[k]? ≠ some (some (.mu o c)) := fun k o c e => by
  have := List.all_eq_true.mp h _ (List.mem_of_getElem? e)
  cases this
theorem ebj_is {T : List (Addr × Str)} {τ τ1 : TEnv} {tt : TT} {b c : Bool} (h : EbJ T tt τ b τ1) (e : b = c) : EbJ T tt τ c τ1 := e ▸ h
theorem told_txt {a : Nat → Addr} {p : List Nat × Option PV} (hp : p ∈ tW) : ToldIs a (resx (a 2) (readV (txtP p))) (dueP p) := by
  have h1 := tW_ok p hp
  have h2 := (tW_len p hp).1
  have e : readV (txtP p) = p.2 := (if_pos (by rw [S_len]; omega)).trans h1
  rw [e]
  unfold dueP
  cases p.2 with
  | none => exact .text
  | some x => exact .val x
theorem ev_ad {τ : TEnv} {ta tb : TE} {x y : List Nat} (hx : EvR ta τ (.str (S x)) τ) (hy : EvR tb τ (.str (S y)) τ) (h : x.length + y.length ≤ 100000) :
    EvR (tOp (fun x y H Q => ∃ i j, x = .str i ∧ y = .str j ∧ i.length + j.length ≤ sizeLine ∧ Q (.str (i ++ j)) H) ta tb) τ (.str (S (x ++ y))) τ :=
  ev_is (ev_op hx hy (r_addS (small (by rw [S_len, S_len]; omega)))) (by rw [S_app])
theorem most_ok : (decide (-MOSTv < MOSTv - 1) && decide (MOSTv - 1 < MOSTv)) = true := by decide +kernel
theorem lst_ne {K : PySem.W.Frag} {l : List PV} (h : ∀ x ∈ l, atom x = true) : RvR (rNeD K) (.lst l) (.lst l) (.bl false) := by
  have e : (!PyData.eqv (pd (.lst l)) (pd (.lst l))) = false := by
    rw [SeqAt.eqv_refl _ (SeqAt.canLay_of_shaped (flatShaped h))]
    rfl
  rw [← e]
  exact r_neD (flatD h) (flatD h) (flatShaped h) (flatShaped h)
abbrev a2000 : PV := .str (S (List.replicate 2000 97))
def bigP : PV := .tup (List.replicate 30 a2000)
def tblW : List (PV × PV) := [(.bl true, .str "sort"), (.lst [.int 1], .str "sort"), (.tup [.int 1, .lst [.int 2]], .str "sort"), (.int MOSTv, .str "sort"), (.int (-MOSTv), .str "sort"), (.str (S (List.replicate 2001 97)), .str "sort"), (bigP, .str "many 60000")]
theorem big_th : isTh 20 bigP = true := isThs_of fun x hx => by
  rw [(List.mem_replicate.mp hx).2]
  exact aTh (Nat.le_refl _) 19
theorem tblW_ok {a : Nat → Addr} : ∀ p ∈ tblW, ∃ r, R_thing_text (a 3) (a 4) [p.1] r ∧ ToldIs a r p.2 := by
  have no : ∀ x : PV, sz x = true → isTh 20 x = false → ∃ r, R_thing_text (a 3) (a 4) [x] r ∧ ToldIs a r (.str "sort") := fun x h1 h2 =>
    ⟨.inr ⟨a 3, none⟩, ⟨x, rfl, h1, fun z => (by rw [h2] at z; cases z), by rw [h2]; rfl⟩, .sort⟩
  intro p hp
  simp only [tblW, List.mem_cons, List.not_mem_nil, or_false] at hp
  rcases hp with rfl | rfl | rfl | rfl | rfl | rfl | rfl
  · exact no _ rfl rfl
  · exact no _ (by decide +kernel) rfl
  · exact no _ (by decide +kernel) (by decide +kernel)
  · exact no _ rfl (by rw [isTh_int]; decide +kernel)
  · exact no _ rfl (by rw [isTh_int]; decide +kernel)
  · exact no _ (by decide +kernel) (by rw [isTh_str, decide_eq_false (by rw [S_len, List.length_replicate]; decide)]; rfl)
  · have hl : (txt bigP).length = 60211 := rep_len 29
    refine ⟨.inr ⟨a 4, some ("limit", .int 60000)⟩, ⟨bigP, rfl, by decide +kernel, fun _ => by rw [hl]; decide, ?_⟩, .many 60000 (by decide +kernel) (by decide +kernel)⟩
    rw [if_pos big_th, hl]
    rfl
theorem readV_S (t : List Nat) (h : t.length ≤ 60000) : readV (.str (S t)) = readT t := if_pos (by rw [S_len]; exact h)
theorem readV_parts : resx (0 : Nat) (readV (.str (S (txt partsP)))) = .inl partsP := by
  rw [readV_S _ (by rw [parts_len]; decide), readT_iff.mpr ⟨parts_th 19, rfl⟩]
  rfl
theorem resx_of {C D : Addr} {o : Option PV} {x : PV} (h : resx D o = .inl x) : resx C o = .inl x := by
  cases o with
  | none => cases h
  | some y => cases h; rfl
def nmWR : Str := "_law_written_right.<locals>." ++ "<lambda>"
section
variable {P : Program} {w : World} {K : PySem.W.Frag} {mg : Str → Option Value} {base : Heap} {a : Nat → Addr} {d : Nat → FuncData}
theorem ok__law_written_right {Tl : List (Addr × Str)} {c Pt : Addr} (T : Txt K mg a d) (TK : ToldK K mg a) (TJ : TxtJ K mg a d) (TM : TMK P K mg a d) (hno : PySem.W.findIn K (.ref (a 4)) "limit" = some none) (F : FunC K "_law_written_right" s__law_written_right (a 41) (d 41) c)
    (TB : TabB base mg c Pt) (hmT : (Pt, nmWR) ∈ Tl) (hu : ∀ p ∈ Tl, p.1 = Pt → p.2 = nmWR) (ok_TR : FnOk P w K mg base CX0 43 (a 39) (d 39) ["text"] (spOfJ Tl R_text_right)) : FnOk P w K mg base CX0 44 (a 41) (d 41) [] (spOfJ Tl R_written) := by
  refine ok_pureC F sc__law_written_right (fun xs y h => by obtain ⟨rfl, _⟩ := h; rfl) (by decide) (fun A outer s H E hr xs y h => ?_)
  obtain ⟨rfl, rfl⟩ := h
  have ih__law_like := ok__law_like (P := P) (w := w) (base := base) T 30
  refine ⟨_, (pss_cons (ps_set (i := 0) sc__law_written_right.nd rfl (by first | exact Or.inl rfl | exact Or.inr rfl) (pe_lst (pa_cons pe_str (pa_cons pe_str (pa_cons pe_str (pa_cons pe_str (pa_cons pe_str (pa_cons pe_str (pa_cons pe_str (pa_cons pe_str (pa_cons pe_str (pa_cons pe_str (pa_cons pe_str (pa_cons pe_str (pa_cons pe_str (pa_cons pe_str (pa_cons pe_str (pa_cons pe_str (pa_cons pe_str (pa_cons pe_str (pa_cons pe_str (pa_cons pe_str (pa_cons pe_str (pa_cons pe_str pa_nil))))))))))))))))))))))))
      (pss_cons (ps_set (i := 1) sc__law_written_right.nd rfl (by first | exact Or.inl rfl | exact Or.inr rfl) (pe_lst (pa_cons pe_str (pa_cons (pe_lst (pa_cons pe_non pa_nil)) (pa_cons pe_str (pa_cons (pe_lst (pa_cons pe_int pa_nil)) (pa_cons pe_str (pa_cons pe_str (pa_cons (pe_lst (pa_cons (pe_un un_neg pe_int) pa_nil)) (pa_cons pe_str (pa_cons pe_str (pa_cons pe_str (pa_cons pe_str (pa_cons pe_str (pa_cons (pe_lst (pa_cons pe_str pa_nil)) (pa_cons pe_str (pa_cons (pe_lst (pa_cons pe_str pa_nil)) (pa_cons pe_str (pa_cons pe_str (pa_cons pe_str (pa_cons (pe_lst (pa_cons pe_str pa_nil)) (pa_cons (pe_lst (pa_cons pe_str pa_nil)) (pa_cons pe_str (pa_cons pe_str pa_nil))))))))))))))))))))))))
      (pss_cons (ps_set (i := 0) sc__law_written_right.nd rfl (by first | exact Or.inl rfl | exact Or.inr rfl) (pe_op op_cat (pv 0) (pe_lst (pa_cons pe_str (pa_cons pe_str (pa_cons pe_str (pa_cons pe_str (pa_cons pe_str (pa_cons pe_str (pa_cons pe_str (pa_cons pe_str (pa_cons pe_str (pa_cons pe_str (pa_cons pe_str (pa_cons pe_str (pa_cons pe_str (pa_cons pe_str (pa_cons pe_str (pa_cons pe_str (pa_cons pe_str pa_nil))))))))))))))))))))
      (pss_cons (ps_set (i := 1) sc__law_written_right.nd rfl (by first | exact Or.inl rfl | exact Or.inr rfl) (pe_op op_cat (pv 1) (pe_lst (pa_cons (pe_lst (pa_cons (pe_tup pa_nil) pa_nil)) (pa_cons pe_str (pa_cons pe_str (pa_cons pe_str (pa_cons pe_str (pa_cons pe_str (pa_cons (pe_lst (pa_cons (pe_tup (pa_cons pe_non (pa_cons pe_non pa_nil))) pa_nil)) (pa_cons pe_str (pa_cons pe_str (pa_cons (pe_lst (pa_cons (pe_tup (pa_cons (pe_tup pa_nil) pa_nil)) pa_nil)) (pa_cons (pe_lst (pa_cons (pe_tup (pa_cons (pe_tup pa_nil) (pa_cons (pe_tup pa_nil) pa_nil))) pa_nil)) (pa_cons pe_str (pa_cons (pe_lst (pa_cons (pe_tup (pa_cons pe_str pa_nil)) pa_nil)) (pa_cons (pe_lst (pa_cons (pe_tup (pa_cons pe_str (pa_cons pe_int pa_nil))) pa_nil)) (pa_cons pe_str (pa_cons pe_str (pa_cons pe_str pa_nil))))))))))))))))))))
      (pss_cons (ps_if (PW.pt (pw_or (pt_not (pt_val (pe_call ih__law_like (hr.mono (by first | decide | omega)) (by rfl) T._law_like.g T._law_like.F.kp T._law_like.b .nil pass0 (pa_cons (pe_lc (own := [("text", 2)]) (g := gName 2) (by rfl) sc__law_written_right.nd (pi_list (pv 0)) (blkOk_by (own := [("text", 2)]) (N := N__law_written_right) (sc := defScope s__law_written_right) (by decide +kernel)) (fun _ _ _ _ _ => (pg_name (i := 2) sc__law_written_right.nd rfl (by first | exact Or.inl rfl | exact Or.inr rfl))) (fun _ _ _ _ _ => pts_nil) (fun _ _ _ _ _ => (pe_told (k := 30) T TK TB (by rfl) hmT hu (by rfl) (hr.mono (by first | decide | omega)) (lamS_by (by rfl)) (by rfl) (fun _ _ _ _ _ => by rfl) (fun A outer s H E f c' hr2 => (pe_call (ok_read_thing T) (hr2.mono (by first | decide | omega)) (by rfl) T.read_thing.g T.read_thing.F.kp T.read_thing.b .nil (passes_call (takes_of rfl rfl rfl rfl) (fun _ _ _ _ z => z)) (pa_cons (pv 2) pa_nil)))))) (pa_cons (pv 1) pa_nil))))) (pw_or1 (pt_cmpR (op_neD hr.units) (pe_lc (own := [("text", 2)]) (g := gName 2) (by rfl) sc__law_written_right.nd (pi_list (pv 0)) (blkOk_by (own := [("text", 2)]) (N := N__law_written_right) (sc := defScope s__law_written_right) (by decide +kernel)) (fun _ _ _ _ _ => (pg_name (i := 2) sc__law_written_right.nd rfl (by first | exact Or.inl rfl | exact Or.inr rfl))) (fun _ _ _ _ _ => (pts_one (pt_not (pt_val (pe_call ok_TR (hr.mono (by first | decide | omega)) (by rfl) TJ._law_text_right.g TJ._law_text_right.F.kp TJ._law_text_right.b .nil pass0 (pa_cons (pv 2) pa_nil)))))) (fun _ _ _ _ _ => pe_int)) (pe_lst pa_nil) (nomark _))))) (pss_one (ps_ret pe_bl)) pss_nil)
      (pss_cons (ps_par (i := 3) (j := 4) (by rfl) sc__law_written_right.nd rfl rfl (by decide) rfl rfl (pa_cons (pe_op op_add_str (pe_op op_repS pe_str pe_int) (pe_op op_repS pe_str pe_int)) (pa_cons (pe_callTy call_str_int (by rfl) T.n_str (by decide +kernel) (pa_cons (pe_op op_sub (pe_call0 (ok__law_great T) (hr.mono (by first | decide | omega)) (by rfl) T._law_great.g T._law_great.F.kp T._law_great.b .nil pass0) pe_int) pa_nil)) pa_nil)) (by rfl))
      (pss_cons (ps_set (i := 5) sc__law_written_right.nd rfl (by first | exact Or.inl rfl | exact Or.inr rfl) (pe_lst (pa_cons (pe_op op_add_str (pe_op op_add_str pe_str (pv 3)) pe_str) (pa_cons (pv 3) (pa_cons (pv 4) (pa_cons (pe_op op_add_str pe_str (pv 4)) (pa_cons (pe_op op_add_str (pv 4) pe_str) (pa_cons (pe_op op_add_str pe_str (pe_op op_repS pe_str pe_int)) (pa_cons (pe_op op_add_str pe_str (pe_op op_repS pe_str pe_int)) (pa_cons (pe_op op_add_str pe_str (pe_op op_repS pe_str pe_int)) pa_nil))))))))))
      (pss_cons (ps_setLc (i := 6) (own := [("own", 7)]) (g := gName 7) (by rfl) sc__law_written_right.nd rfl rfl (sw_true rfl rfl rfl (by decide +kernel)) (pi_list (pe_op op_cat (pv 5) (pe_lst (pa_cons pe_non (pa_cons pe_int (pa_cons (pe_tup (pa_cons pe_str pa_nil)) (pa_cons (pe_lst (pa_cons pe_str pa_nil)) pa_nil))))))) (blkOk_by (own := [("own", 7)]) (N := N__law_written_right) (sc := defScope s__law_written_right) (by decide +kernel)) (fun _ _ _ _ _ => (pg_name (i := 7) sc__law_written_right.nd rfl (by first | exact Or.inl rfl | exact Or.inr rfl))) (fun _ _ _ _ _ => pts_nil) (fun _ _ _ _ _ => (pe_cmpR (show OpR _ _ (rEqD K) from op_eqD hr.units) (pe_told (k := 30) T TK TB (by rfl) hmT hu (by rfl) (hr.mono (by first | decide | omega)) (lamS_by (by rfl)) (by rfl) (fun _ _ _ _ _ => by rfl) (fun A outer s H E f c' hr2 => (pe_call (ok_read_thing T) (hr2.mono (by first | decide | omega)) (by rfl) T.read_thing.g T.read_thing.F.kp T.read_thing.b .nil (passes_call (takes_of rfl rfl rfl rfl) (fun _ _ _ _ z => z)) (pa_cons (pv 7) pa_nil)))) pe_str (nomark _))))
      (pss_cons (ps_if (pt_cmpR (op_neD hr.units) (pv 6) (pe_lst (pa_cons pe_bl (pa_cons pe_bl (pa_cons pe_bl (pa_cons pe_bl (pa_cons pe_bl (pa_cons pe_bl (pa_cons pe_bl (pa_cons pe_bl (pa_cons pe_bl (pa_cons pe_bl (pa_cons pe_bl (pa_cons pe_bl pa_nil))))))))))))) (nomark _)) (pss_one (ps_ret pe_bl)) pss_nil)
      (pss_cons (ps_set (i := 8) sc__law_written_right.nd rfl (by first | exact Or.inl rfl | exact Or.inr rfl) (pe_op op_repT (pe_tup (pa_cons (pe_op op_repS pe_str pe_int) pa_nil)) pe_int))
      (pss_cons (ps_setLc (i := 9) (own := [("own", 7)]) (g := gName 7) (by rfl) sc__law_written_right.nd rfl rfl (sw_true rfl rfl rfl (by decide +kernel)) (pi_tup (pe_tup (pa_cons pe_bl (pa_cons (pe_lst (pa_cons pe_int pa_nil)) (pa_cons (pe_tup (pa_cons pe_int (pa_cons (pe_lst (pa_cons pe_int pa_nil)) pa_nil))) (pa_cons (pe_call0 (ok__law_great T) (hr.mono (by first | decide | omega)) (by rfl) T._law_great.g T._law_great.F.kp T._law_great.b .nil pass0) (pa_cons (pe_un un_neg (pe_call0 (ok__law_great T) (hr.mono (by first | decide | omega)) (by rfl) T._law_great.g T._law_great.F.kp T._law_great.b .nil pass0)) (pa_cons (pe_op op_repS pe_str pe_int) (pa_cons (pe_op op_catA (pv 8) (pe_tup (pa_cons (pe_op op_repS pe_str pe_int) pa_nil))) pa_nil))))))))) (blkOk_by (own := [("own", 7)]) (N := N__law_written_right) (sc := defScope s__law_written_right) (by decide +kernel)) (fun _ _ _ _ _ => (pg_name (i := 7) sc__law_written_right.nd rfl (by first | exact Or.inl rfl | exact Or.inr rfl))) (fun _ _ _ _ _ => pts_nil) (fun _ _ _ _ _ => (pe_told (k := 30) T TK TB (by rfl) hmT hu (by rfl) (hr.mono (by first | decide | omega)) (lamS_by (by rfl)) (by rfl) (fun _ _ _ _ _ => by rfl) (fun A outer s H E f c' hr2 => (pe_call (ok_thing_text T TM hno) (hr2.mono (by first | decide | omega)) (by rfl) T.thing_text.g T.thing_text.F.kp T.thing_text.b .nil (passes_call (takes_of rfl rfl rfl rfl) (fun _ _ _ _ z => z)) (pa_cons (pv 7) pa_nil))))))
      (pss_one (ps_ret (pe_and (pe_cmpR (op_eqD hr.units) (pv 9) (pe_op op_cat (pe_op op_rep (pe_lst (pa_cons pe_str pa_nil)) pe_int) (pe_lst (pa_cons pe_str pa_nil))) (nomark _)) (pe_and (pe_cmpR op_eq (pe_callB call_len (by rfl) T.n_len (by decide +kernel) (pa_cons (pe_call (ok_thing_text T TM hno) (hr.mono (by first | decide | omega)) (by rfl) T.thing_text.g T.thing_text.F.kp T.thing_text.b .nil (passes_call LamX.takes0 (fun _ _ _ _ z => z)) (pa_cons (pv 8) pa_nil)) pa_nil)) pe_int (nomark _)) (pe_one (pe_call ih__law_like (hr.mono (by first | decide | omega)) (by rfl) T._law_like.g T._law_like.F.kp T._law_like.b .nil pass0 (pa_cons (pe_call (ok_read_thing T) (hr.mono (by first | decide | omega)) (by rfl) T.read_thing.g T.read_thing.F.kp T.read_thing.b .nil (passes_call LamX.takes0 (fun _ _ _ _ z => z)) (pa_cons (pe_call (ok_thing_text T TM hno) (hr.mono (by first | decide | omega)) (by rfl) T.thing_text.g T.thing_text.F.kp T.thing_text.b .nil (passes_call LamX.takes0 (fun _ _ _ _ z => z)) (pa_cons (pv 8) pa_nil)) pa_nil)) (pa_cons (pv 8) pa_nil))))))))))))))))))), ?_⟩
  show ExJ Tl _ [none, none, none, none, none, none, none, none, none, none] _
  refine xj_seq1 (xj_set (x := .lst (tA.map txtP)) (τ1 := [none, none, none, none, none, none, none, none, none, none]) (ej_of (ev_lit (x := .lst (tA.map txtP)) (by decide +kernel)) (Shp.refl _)) rfl) ?_
  refine xj_seq1 (xj_set (x := .lst (tA.map dueP)) (τ1 := [some (.val (.lst (tA.map txtP))), none, none, none, none, none, none, none, none, none]) (ej_of (ev_lit (x := .lst (tA.map dueP)) (by decide +kernel)) (Shp.refl _)) rfl) ?_
  refine xj_seq1 (xj_set (x := .lst (tW.map txtP)) (τ1 := [some (.val (.lst (tA.map txtP))), some (.val (.lst (tA.map dueP))), none, none, none, none, none, none, none, none]) (ej_of (ev_is (x := .lst (tA.map txtP ++ tB.map txtP)) (ev_op (ev_var rfl) (ev_lit (x := .lst (tB.map txtP)) (by decide +kernel)) (r_catL (small (Nat.le_of_ble_eq_true rfl)))) rfl) (Shp.refl _)) rfl) ?_
  refine xj_seq1 (xj_set (x := .lst (tW.map dueP)) (τ1 := [some (.val (.lst (tW.map txtP))), some (.val (.lst (tA.map dueP))), none, none, none, none, none, none, none, none]) (ej_of (ev_is (x := .lst (tA.map dueP ++ tB.map dueP)) (ev_op (ev_var rfl) (ev_lit (x := .lst (tB.map dueP)) (by decide +kernel)) (r_catL (small (Nat.le_of_ble_eq_true rfl)))) rfl) (Shp.refl _)) rfl) ?_
  obtain ⟨S4, hS4⟩ : ∃ S4 : TEnv, S4 = [some (.val (.lst (tW.map txtP))), some (.val (.lst (tW.map dueP))), none, none, none, none, none, none, none, none] := ⟨_, rfl⟩
  show ExJ Tl _ [some (.val (.lst (tW.map txtP))), some (.val (.lst (tW.map dueP))), none, none, none, none, none, none, none, none] _
  rw [← hS4]
  have hv4 := hv_of (τ := S4) (by rw [hS4]; rfl)
  have hv42 : ∀ x : PV, ∀ (k : Nat) (o : Bool) (c : Cell), (S4.set 2 (some (.val x)))[k]? ≠ some (some (.mu o c)) := fun x => hv_of (by rw [hS4]; rfl)
  have v0 : EvJ Tl (tVar 0) S4 (.lst (tW.map txtP)) S4 := ej_of (by rw [lentN hv4]; exact ev_var (by rw [hS4]; rfl)) (Shp.refl _)
  have v1 : EvJ Tl (tVar 1) S4 (.lst (tW.map dueP)) S4 := ej_of (by rw [lentN hv4]; exact ev_var (by rw [hS4]; rfl)) (Shp.refl _)
  have v2 : ∀ x : PV, EvR (tVar 2) (S4.set 2 (some (.val x))) x (S4.set 2 (some (.val x))) := fun x => ev_var (by rw [hS4]; rfl)
  have hl4 : tW.length ≤ 100000 := Nat.le_of_ble_eq_true rfl
  refine xj_gF (τ1 := S4) (ebj_or (τ1 := S4) (ebj_not (b := true) (ebj_B (ej_call (τ1 := S4) (eaj_cons (x := .lst (tW.map dueP)) (ej_map tW txtP dueP hv4 (itj_list v0) hl4 (fun p hp => told_ev (hv42 _) (ea_cons (v2 _) ea_nil) ⟨txtP p, rfl, fun m z => (by cases z), fun s z => (by cases z; rw [S_len]; have := (tW_len p hp).1; omega), rfl⟩ (told_txt hp)))
    (eaj_cons v1 eaj_nil)) (spP ⟨.lst (tW.map dueP), rfl, by decide +kernel, rfl⟩))))
    (ebj_is (b := !PyData.eqv (pd (.lst [])) (pd (.lst []))) (ebj_test (ej_op (y := .lst []) (ej_no hv4 (itj_list v0) (by rw [List.length_map]; exact hl4) (fun x hx => ?_)) (ej_of (ev_new (en_lst ea_nil (Nat.le_of_ble_eq_true rfl))) (Shp.refl _)) (r_neD rfl rfl rfl rfl))) rfl)) ?_
  · obtain ⟨p, hp, rfl⟩ := List.mem_map.mp hx
    obtain ⟨g1, g2⟩ := tW_len p hp
    refine ebj_not (b := true) (ebj_B (ej_callJ (eaj_cons (x := .str (S p.1)) (ej_of (by rw [lentN (hv42 _)]; exact v2 _) (Shp.refl _)) eaj_nil) ⟨p.1, rfl, fun c hc => ?_, by omega, rfl⟩))
    have := List.all_eq_true.mp g2 c hc
    simpa using this
  have hdeep : ∀ {τ : TEnv}, EvR (tOp (fun x y H Q => ∃ i j, x = .str i ∧ y = .str j ∧ i.length + j.length ≤ sizeLine ∧ Q (.str (i ++ j)) H) (tOp rRepS (tC (.str "<")) (tC (.int 20))) (tOp rRepS (tC (.str ">")) (tC (.int 20)))) τ (.str (S deepL)) τ := fun {τ} =>
    ev_ad (x := List.replicate 20 60) (y := List.replicate 20 62) (ev_op ev_str ev_int (r_repS (c := 60) (by decide) (by decide))) (ev_op ev_str ev_int (r_repS (c := 62) (by decide) (by decide))) (by decide)
  have hmost : ∀ {τ : TEnv}, EvR (tCB (fun xs H Q => ∃ i, xs = [.int i] ∧ i.natAbs.log2 < 1920 ∧ Q (.str (toString i)) H) (tCons (tOp (rI0 fun i j => .int (i - j)) (tCall (spOf R_law_great) [] E0 tNil) (tC (.int 1))) tNil)) τ (.str (S nines)) τ := fun {τ} =>
    ev_is (x := .str (toString (MOSTv - 1))) (ev_cb (ea_cons (ev_op (ev_call ea_nil (spP ⟨rfl, rfl⟩)) ev_int r_sub) ea_nil) (c_strI (int_log most_ok))) (by rw [← intL_most]; exact congrArg PV.str (str_int _))
  rw [hS4]
  refine xj_seq1 (xj_par (x := .str (S deepL)) (y := .str (S nines)) (τ1 := [some (.val (.lst (tW.map txtP))), some (.val (.lst (tW.map dueP))), none, none, none, none, none, none, none, none]) (eaj_cons (τ1 := [some (.val (.lst (tW.map txtP))), some (.val (.lst (tW.map dueP))), none, none, none, none, none, none, none, none]) (ej_of hdeep (Shp.refl _)) (eaj_cons (ej_of hmost (Shp.refl _)) eaj_nil)) rfl) ?_
  show ExJ Tl _ [some (.val (.lst (tW.map txtP))), some (.val (.lst (tW.map dueP))), none, some (.val (.str (S deepL))), some (.val (.str (S nines))), none, none, none, none, none] _
  refine xj_seq1 (xj_set (x := .lst (oddsL.map fun t => PV.str (S t))) (τ1 := [some (.val (.lst (tW.map txtP))), some (.val (.lst (tW.map dueP))), none, some (.val (.str (S deepL))), some (.val (.str (S nines))), none, none, none, none, none])
    (ej_of (ev_new (en_lst (xs := oddsL.map fun t => PV.str (S t)) (ea_cons (ev_ad (ev_ad (x := [60]) ev_str (ev_var rfl) (by decide)) (y := [62]) ev_str (by decide)) (ea_cons (ev_var rfl) (ea_cons (ev_var rfl) (ea_cons (ev_ad (x := [45]) ev_str (ev_var rfl) (by decide)) (ea_cons (ev_ad (y := [48]) (ev_var rfl) ev_str (by decide))
      (ea_cons (ev_ad (x := [49]) (y := List.replicate 200 48) ev_str (ev_op ev_str ev_int (r_repS (c := 48) (by decide) (by decide))) (by decide)) (ea_cons (ev_ad (x := [61, 50, 48, 48, 48, 58]) (y := List.replicate 2000 97) ev_str (ev_op ev_str ev_int (r_repS (c := 97) (by decide) (by decide))) (by decide +kernel)) (ea_cons (ev_ad (x := [61, 50, 48, 48, 49, 58]) (y := List.replicate 2001 97) ev_str (ev_op ev_str ev_int (r_repS (c := 97) (by decide) (by decide))) (by decide +kernel)) ea_nil)))))))) (by decide))) (Shp.refl _)) rfl) ?_
  obtain ⟨S7, hS7⟩ : ∃ S7 : TEnv, S7 = [some (.val (.lst (tW.map txtP))), some (.val (.lst (tW.map dueP))), none, some (.val (.str (S deepL))), some (.val (.str (S nines))), some (.val (.lst (oddsL.map fun t => PV.str (S t)))), none, none, none, none] := ⟨_, rfl⟩
  show ExJ Tl _ [some (.val (.lst (tW.map txtP))), some (.val (.lst (tW.map dueP))), none, some (.val (.str (S deepL))), some (.val (.str (S nines))), some (.val (.lst (oddsL.map fun t => PV.str (S t)))), none, none, none, none] _
  rw [← hS7]
  have hv7 := hv_of (τ := S7) (by rw [hS7]; rfl)
  have hv77 : ∀ x : PV, ∀ (k : Nat) (o : Bool) (c : Cell), (S7.set 7 (some (.val x)))[k]? ≠ some (some (.mu o c)) := fun x => hv_of (by rw [hS7]; rfl)
  have w5 : EvR (tVar 5) S7 (.lst (oddsL.map fun t => PV.str (S t))) S7 := ev_var (by rw [hS7]; rfl)
  have w7 : ∀ x : PV, EvR (tVar 7) (S7.set 7 (some (.val x))) x (S7.set 7 (some (.val x))) := fun x => ev_var (by rw [hS7]; rfl)
  refine xj_seq1 (xj_set (x := .lst (tbl7.map fun p : PV × PV × Bool => PV.bl p.2.2)) (τ1 := S7) (ej_map tbl7 (fun p => p.1) (fun p : PV × PV × Bool => PV.bl p.2.2) hv7 (itj_list (ej_of (by
      rw [lentN hv7]
      exact ev_is (x := .lst ((oddsL.map fun t => PV.str (S t)) ++ [.non, .int 1, .tup [.str "?"], .lst [.str "?"]])) (ev_op w5 (ev_lit (x := .lst [.non, .int 1, .tup [.str "?"], .lst [.str "?"]]) (by decide +kernel)) (r_catL (small (Nat.le_of_ble_eq_true rfl)))) rfl) (Shp.refl _))) (Nat.le_of_ble_eq_true rfl) (fun p hp => ?_)) rfl) ?_
  · obtain ⟨g1, g2, g3⟩ := tbl7_eq p hp
    have gs := tbl7_sz p hp
    rw [← g3]
    refine ej_op (τ1 := S7.set 7 (some (.val p.1))) (told_ev (hv77 _) (ea_cons (w7 _) ea_nil) ⟨p.1, rfl, fun m z => ?_, fun s z => ?_, rfl⟩ (tbl7_ok p hp)) (ej_of ev_str (Shp.refl _)) (r_eqD g1 text_eq.1 g2 text_eq.2.1)
    · rw [z] at gs; cases gs
    · rw [z] at gs
      have gs : decide (s.length ≤ 60000) = true := gs
      rw [decide_eq_true_eq] at gs
      omega
  have hS8 : S7.set 6 (some (.val (.lst (tbl7.map fun p : PV × PV × Bool => PV.bl p.2.2)))) = [some (.val (.lst (tW.map txtP))), some (.val (.lst (tW.map dueP))), none, some (.val (.str (S deepL))), some (.val (.str (S nines))), some (.val (.lst (oddsL.map fun t => PV.str (S t)))), some (.val (.lst (tbl7.map fun p : PV × PV × Bool => PV.bl p.2.2))), none, none, none] := by rw [hS7]; rfl
  rw [hS8]
  refine xj_gF (τ1 := [some (.val (.lst (tW.map txtP))), some (.val (.lst (tW.map dueP))), none, some (.val (.str (S deepL))), some (.val (.str (S nines))), some (.val (.lst (oddsL.map fun t => PV.str (S t)))), some (.val (.lst (tbl7.map fun p : PV × PV × Bool => PV.bl p.2.2))), none, none, none]) (ebj_of (eb_test (ev_op (ev_var rfl) (ev_lit (x := .lst (tbl7.map fun p : PV × PV × Bool => PV.bl p.2.2)) (by decide +kernel)) (lst_ne fun x hx => ?_))) (Shp.refl _)) ?_
  · obtain ⟨p, _, rfl⟩ := List.mem_map.mp hx
    rfl
  obtain ⟨S8, hS8'⟩ : ∃ S8 : TEnv, S8 = [some (.val (.lst (tW.map txtP))), some (.val (.lst (tW.map dueP))), none, some (.val (.str (S deepL))), some (.val (.str (S nines))), some (.val (.lst (oddsL.map fun t => PV.str (S t)))), some (.val (.lst (tbl7.map fun p : PV × PV × Bool => PV.bl p.2.2))), none, none, none] := ⟨_, rfl⟩
  have ha : ∀ {τ : TEnv}, EvR (tOp rRepS (tC (.str "a")) (tC (.int 2000))) τ a2000 τ := fun {τ} => ev_op ev_str ev_int (r_repS (c := 97) (by decide) (by decide))
  rw [← hS8']
  refine xj_seq1 (xj_set (x := partsP) (τ1 := S8) (ej_of (ev_is (x := .tup (List.replicate 29 [a2000]).flatten) (ev_op (ev_tup (ea_cons ha ea_nil) (Nat.le_of_ble_eq_true rfl)) ev_int (r_repT (by decide) (by decide) (by simp) (Nat.le_of_ble_eq_true rfl))) rfl) (Shp.refl _)) rfl) ?_
  obtain ⟨S9, hS9⟩ : ∃ S9 : TEnv, S9 = S8.set 8 (some (.val partsP)) := ⟨_, rfl⟩
  rw [← hS9]
  have hv9 := hv_of (τ := S9) (by rw [hS9, hS8']; rfl)
  have hv97 : ∀ x : PV, ∀ (k : Nat) (o : Bool) (c : Cell), (S9.set 7 (some (.val x)))[k]? ≠ some (some (.mu o c)) := fun x => hv_of (by rw [hS9, hS8']; rfl)
  have w8 : EvR (tVar 8) S9 partsP S9 := ev_var (by rw [hS9, hS8']; rfl)
  have w97 : ∀ x : PV, EvR (tVar 7) (S9.set 7 (some (.val x))) x (S9.set 7 (some (.val x))) := fun x => ev_var (by rw [hS9, hS8']; rfl)
  have hg : ∀ {τ : TEnv}, EvR (tCall (spOf R_law_great) [] E0 tNil) τ (.int MOSTv) τ := fun {τ} => ev_call ea_nil (spP ⟨rfl, rfl⟩)
  refine xj_seq1 (xj_set (x := .lst (tblW.map fun p : PV × PV => p.2)) (τ1 := S9) (ej_map tblW (fun p => p.1) (fun p => p.2) hv9 (itj_tup (ej_of (by
      rw [lentN hv9]
      exact ev_tup (xs := tblW.map fun p : PV × PV => p.1) (ea_cons ev_bl (ea_cons (ev_lit (x := .lst [.int 1]) (by decide +kernel)) (ea_cons (ev_lit (x := .tup [.int 1, .lst [.int 2]]) (by decide +kernel)) (ea_cons hg (ea_cons (ev_un hg u_neg) (ea_cons (ev_op ev_str ev_int (r_repS (c := 97) (by decide) (by decide)))
        (ea_cons (ev_is (x := .tup (List.replicate 29 a2000 ++ [a2000])) (ev_op w8 (ev_tup (ea_cons ha ea_nil) (Nat.le_of_ble_eq_true rfl)) (r_catT (small (Nat.le_of_ble_eq_true rfl)))) rfl) ea_nil))))))) (Nat.le_of_ble_eq_true rfl)) (Shp.refl _))) (Nat.le_of_ble_eq_true rfl) (fun p hp => ?_)) rfl) ?_
  · obtain ⟨r, h1, h2⟩ := tblW_ok (a := a) p hp
    exact told_ev (hv97 _) (ea_cons (w97 _) ea_nil) h1 h2
  obtain ⟨S10, hS10⟩ : ∃ S10 : TEnv, S10 = S9.set 9 (some (.val (.lst (tblW.map fun p : PV × PV => p.2)))) := ⟨_, rfl⟩
  rw [← hS10]
  have hv10 := hv_of (τ := S10) (by rw [hS10, hS9, hS8']; rfl)
  have x8 : EvR (tVar 8) S10 partsP S10 := ev_var (by rw [hS10, hS9, hS8']; rfl)
  have x9 : EvR (tVar 9) S10 (.lst (tblW.map fun p : PV × PV => p.2)) S10 := ev_var (by rw [hS10, hS9, hS8']; rfl)
  have hat : ∀ x ∈ (tblW.map fun p : PV × PV => p.2), atom x = true := by decide +kernel
  have hth := parts_th 19
  have hpl := parts_len
  have hpz : sz partsP = true := isTh_sz hth (by omega)
  have ht : ∀ {E : XK}, EvR (tCall (spOfE (R_thing_text (a 3) (a 4))) [] E (tCons (tVar 8) tNil)) S10 (.str (S (txt partsP))) S10 := fun {E} =>
    ev_call (ea_cons x8 ea_nil) (spEv ⟨partsP, rfl, hpz, fun _ => by omega, by rw [if_pos hth, if_pos (by omega)]⟩)
  refine xj_ret (x := .bl (true && (true && true))) (ej_of (by
    rw [lentN hv10]
    refine ev_andP (b := true) (ev_is (x := .bl (PyData.eqv (pd (.lst (tblW.map fun p : PV × PV => p.2))) (pd (.lst (tblW.map fun p : PV × PV => p.2))))) (ev_op x9 (ev_is (x := .lst ((List.replicate 6 [PV.str "sort"]).flatten ++ [.str "many 60000"])) (ev_op (ev_op (ev_new (en_lst (ea_cons ev_str ea_nil) (Nat.le_of_ble_eq_true rfl))) ev_int (r_repL (by decide) (by decide) (small (Nat.le_of_ble_eq_true rfl)))) (ev_new (en_lst (ea_cons ev_str ea_nil) (Nat.le_of_ble_eq_true rfl))) (r_catL (small (Nat.le_of_ble_eq_true rfl)))) rfl) (r_eqD (flatD hat) (flatD hat) (flatShaped hat) (flatShaped hat))) ?_) fun _ => ev_andP (b := true) (ev_is (ev_op (ev_cb (ea_cons ht ea_nil) (c_lenS (len_sz (by omega)))) ev_int r_eqI) ?_) fun _ => ev_call (ea_cons (x := partsP) (ev_call (ea_cons ht ea_nil) (spEv ⟨.str (S (txt partsP)), rfl, fun m z => (by cases z), fun s z => (by cases z; rw [S_len]; omega), ?_⟩)) (ea_cons x8 ea_nil)) (spP ⟨partsP, rfl, isTh_lk (isTh_le hth (by decide : 20 ≤ 30)) (by omega), rfl⟩)
    · rw [SeqAt.eqv_refl _ (SeqAt.canLay_of_shaped (flatShaped hat))]
    · rw [S_len, hpl]
      rfl
    · exact (resx_of readV_parts).symm) (Shp.refl _)) rfl
end
end K10
end
section
set_option maxRecDepth 100000
/-! the end of a law whose text makes lambdas and reads loose globals -/
namespace TLy
open PySem PySem.Spec PyProof.Rows L2 LamX
theorem walk_ofX {l : PySem.W.OpenLaw} {n k : Nat} {q : Program} {loose : List Str} {XP : (Str → Option Value) → Heap → Prop} {YP : World → Heap → Prop} {d : DefRec} {K : Params → PySem.W.Frag} {CX : World → CXT} {x : Str}
    (hn : l.most = some n) (hn2 : n ≤ sizeLine) (hdf : d.params.defaults = []) (hr : Room k callerA) (hY : ∀ (w : World) (h : Heap), YP w h → (K w.params).In h)
    (F : ∀ (w : World) (mg : Str → Option Value) (fa : Addr) (h : Heap), XP mg h → YP w h → (K w.params).In h → h.Ns mainGlobals mg → mg d.name = some (.ref fa) → LawAtS l w (K w.params) (CX w) k n x mg fa h)
    (hCX : ∀ (w : World) (H : Hp) (s : Shared) (e : Value) (s' : Shared), CX w [] H s (fun _ _ _ => False) e s' → False) :
    PySem.W.WalkO q loose XP YP l.row.toRowW d [] (fun f vs => PySem.call f vs) := by
  refine Att.attach_callB hn hdf fun w s₀ s₁ mg mb fa o pm cd doc a vs ns G Y ho hd hcd hmg hobj hints hlen hbits hg => ?_
  have kx := hY w _ Y
  obtain ⟨fd, cs, sp, h1, h2, h3, hb, hsp, hF⟩ := F w mg fa _ G.X Y kx G.T.g hmg
  exact law_callTs kx G.T.g G.T.b G.T.builtins G.T.nolimit hg h1 h2 h3 G.T.bmain hobj hints (Nat.le_trans hlen hn2) hr hF hb (fun H hH hS => hsp H a ns hlen hbits hH hS) fun H e s' => hCX w H s₁ e s'
end TLy
end
section
set_option maxRecDepth 100000
/-! k10: the facts of the written part, one by one -/
namespace K10
open PySem PySem.Spec PyProof.Rows L2 TLy
theorem defK_mk {K : PySem.W.Frag} {h : Heap} {mg : Str → Option Value} {x : Str} {st : Stmt} {ps : List Str} {f : Addr} {oc kV doc pm cdv ct : Value} {od an : Option Addr} {osl : Array (Option Value)} (X : K.In h) (G : h.Ns mainGlobals mg)
    (a : PySem.W.nsIn K mainGlobals x = some (some (.ref f))) (l : K.lookup f = some ⟨oc, od, .func (PySem.W.fnOf x x (defArgs st) (defBody st) (defScope st) .none kV doc pm an cdv ct), osl⟩) (c : PySem.W.codeIn K cdv x = true) (k : PySem.W.keepIn K (.ref f) = true)
    (b : ∀ (kV doc pm cdv ct : Value) (an : Option Addr) (us : List Value), us.length = ps.length → bindArgs (PySem.W.fnOf x x (defArgs st) (defBody st) (defScope st) .none kV doc pm an cdv ct) ⟨us, []⟩ = pure (ps.zip us)) :
    DefK K mg x st ps f (PySem.W.fnOf x x (defArgs st) (defBody st) (defScope st) .none kV doc pm an cdv ct) :=
  ⟨⟨⟨oc, od, kV, doc, pm, an, cdv, ct, osl, rfl, l, c⟩, k⟩, PySem.W.mg_of X G a, Binds.all fun us hl => b kV doc pm cdv ct an us hl⟩
theorem defK_mkC {K : PySem.W.Frag} {h : Heap} {mg : Str → Option Value} {x : Str} {st : Stmt} {ps : List Str} {f cd : Addr} {oc kV doc pm ct : Value} {od an : Option Addr} {osl : Array (Option Value)} (X : K.In h) (G : h.Ns mainGlobals mg)
    (a : PySem.W.nsIn K mainGlobals x = some (some (.ref f))) (l : K.lookup f = some ⟨oc, od, .func (PySem.W.fnOf x x (defArgs st) (defBody st) (defScope st) .none kV doc pm an (.ref cd) ct), osl⟩) (c : PySem.W.codeIn K (.ref cd) x = true) (k : PySem.W.keepIn K (.ref f) = true)
    (b : ∀ (kV doc pm cdv ct : Value) (an : Option Addr) (us : List Value), us.length = ps.length → bindArgs (PySem.W.fnOf x x (defArgs st) (defBody st) (defScope st) .none kV doc pm an cdv ct) ⟨us, []⟩ = pure (ps.zip us)) :
    DefK K mg x st ps f (PySem.W.fnOf x x (defArgs st) (defBody st) (defScope st) .none kV doc pm an (.ref cd) ct) ∧ FunC K x st f (PySem.W.fnOf x x (defArgs st) (defBody st) (defScope st) .none kV doc pm an (.ref cd) ct) cd := by
  have D := defK_mk X G a l c k b
  exact ⟨D, ⟨⟨oc, od, kV, doc, pm, an, ct, osl, rfl, l, c⟩, k, ⟨ps, D.b⟩⟩⟩
end K10
end
section
open PySem PySem.W PyProof.Rows
namespace K10
set_option maxRecDepth 100000
set_option maxHeartbeats 0
open_top hd for PySem.Challenge.rw_waysretraced_k10_whole_thing_texts_bent
end K10
end
set_option maxRecDepth 100000
set_option maxHeartbeats 4000000
/-! k10: the facts of the written part, and the end -/
namespace K10
open PySem PySem.Spec PyProof.Rows L2 TLy LamX
/-- the classes of errors -/
structure ClsK (P : Program) (K : PySem.W.Frag) (mg : Str → Option Value) (C1 C2 C3 C4 f5 : Addr) (fd : FuncData) : Prop where
  IT : ExcK K mg "InvalidText" C2
  IS : ExcK K mg "InvalidSort" C3
  TM : SupE P K mg "TooMany" "TooMany.__init__" s_TM N_TM N_TM C4 f5 fd
  gTE : mg "TraceError" = some (.ref C1)
  ex : PySem.W.exmOne K (.ref C2) (.ref C1) = some true ∧ PySem.W.exmOne K (.ref C3) (.ref C1) = some true ∧ PySem.W.exmOne K (.ref C4) (.ref C1) = some true
  ki : PySem.W.kitOne K (.ref C2) (.ref C4) = some false ∧ PySem.W.kitOne K (.ref C2) (.ref C2) = some true ∧ PySem.W.kitOne K (.ref C3) (.ref C4) = some false ∧ PySem.W.kitOne K (.ref C3) (.ref C2) = some false ∧ PySem.W.kitOne K (.ref C3) (.ref C3) = some true ∧ PySem.W.kitOne K (.ref C4) (.ref C4) = some true
  x2 : ExcC K C2
  x3 : ExcC K C3
  x4 : ExcC K C4
  f4 : XfC K C4
  l4 : PySem.W.findIn K (.ref C4) "limit" = some none
theorem cls_mk {P : Program} {K : PySem.W.Frag} {h : Heap} {mg : Str → Option Value} {C1 C2 C3 C4 f5 cda cc : Addr} (X : K.In h) (G : h.Ns mainGlobals mg)
    {oc kV doc pm ct : Value} {od an : Option Addr} {osl : Array (Option Value)} {ccl : Value} {cdd : Option Addr} {vs : Array Value} {ccs : Array (Option Value)} {file : Str} {tf : Tok} {cl : Value} {cld : Option Addr} {csl : Array (Option Value)} {cdat : ClassData}
    {nm q : Str} {N : Addr} {bs : List Value} {bm : List Value} {sn : List Str} {sub : List Value} {ab : Bool} {col : Option Bool} {dd : Option Addr} {k0 k1 k2' k3' k5 : Option Value}
    (g1 : PySem.W.nsIn K mainGlobals "TraceError" = some (some (.ref C1)))
    (g2 : PySem.W.nsIn K mainGlobals "InvalidText" = some (some (.ref C2)))
    (g3 : PySem.W.nsIn K mainGlobals "InvalidSort" = some (some (.ref C3)))
    (g4 : PySem.W.nsIn K mainGlobals "TooMany" = some (some (.ref C4)))
    (x2 : PySem.W.excIn K C2 [.type "ValueError", .type "Exception", .type "BaseException", .type "object"] "ValueError.__new__" = true)
    (x3 : PySem.W.excIn K C3 [.type "ValueError", .type "Exception", .type "BaseException", .type "object"] "ValueError.__new__" = true)
    (k2 : PySem.W.keepIn K (.ref C2) = true)
    (b2 : PySem.W.subIn K (.ref C2) (.type "BaseException") = some true)
    (t2 : PySem.W.typeIn K (.ref C2) = some (.type "type"))
    (e2 : PySem.W.exmOne K (.ref C2) (.ref C1) = some true)
    (k3 : PySem.W.keepIn K (.ref C3) = true)
    (b3 : PySem.W.subIn K (.ref C3) (.type "BaseException") = some true)
    (t3 : PySem.W.typeIn K (.ref C3) = some (.type "type"))
    (e3 : PySem.W.exmOne K (.ref C3) (.ref C1) = some true)
    (k4 : PySem.W.keepIn K (.ref C4) = true)
    (b4 : PySem.W.subIn K (.ref C4) (.type "BaseException") = some true)
    (t4 : PySem.W.typeIn K (.ref C4) = some (.type "type"))
    (e4 : PySem.W.exmOne K (.ref C4) (.ref C1) = some true)
    (q24 : PySem.W.kitOne K (.ref C2) (.ref C4) = some false)
    (q22 : PySem.W.kitOne K (.ref C2) (.ref C2) = some true)
    (q34 : PySem.W.kitOne K (.ref C3) (.ref C4) = some false)
    (q32 : PySem.W.kitOne K (.ref C3) (.ref C2) = some false)
    (q33 : PySem.W.kitOne K (.ref C3) (.ref C3) = some true)
    (q44 : PySem.W.kitOne K (.ref C4) (.ref C4) = some true)
    (ga2 : PySem.W.findIn K (.ref C2) "__getattribute__" = some (some (.builtin "BaseException.__getattribute__")))
    (gg2 : PySem.W.findIn K (.ref C2) "__getattr__" = some none)
    (hd2 : PySem.W.hasDictIn K C2 = true)
    (ha2 : PySem.W.findIn K (.ref C2) "__class__" = some (some (.builtin "object.__class__")))
    (hm2 : PySem.W.mroIn K C2 (.type "object") = some true)
    (ga3 : PySem.W.findIn K (.ref C3) "__getattribute__" = some (some (.builtin "BaseException.__getattribute__")))
    (gg3 : PySem.W.findIn K (.ref C3) "__getattr__" = some none)
    (hd3 : PySem.W.hasDictIn K C3 = true)
    (ha3 : PySem.W.findIn K (.ref C3) "__class__" = some (some (.builtin "object.__class__")))
    (hm3 : PySem.W.mroIn K C3 (.type "object") = some true)
    (ga4 : PySem.W.findIn K (.ref C4) "__getattribute__" = some (some (.builtin "BaseException.__getattribute__")))
    (gg4 : PySem.W.findIn K (.ref C4) "__getattr__" = some none)
    (hd4 : PySem.W.hasDictIn K C4 = true)
    (ha4 : PySem.W.findIn K (.ref C4) "__class__" = some (some (.builtin "object.__class__")))
    (hm4 : PySem.W.mroIn K C4 (.type "object") = some true)
    (hn : PySem.W.specialIn K (.builtin "object.__class__") "__get__" = some (some (.builtin "getset_descriptor.__get__")))
    (ht : PySem.W.takesIn K (.builtin "object.__class__") = some true)
    (l4 : PySem.W.findIn K (.ref C4) "limit" = some none)
    (iC : PySem.W.findIn K (.ref C4) "__init__" = some (some (.ref f5)))
    (tI : PySem.W.typeIn K (.ref f5) = some (.type "function"))
    (lf : K.lookup f5 = some ⟨oc, od, .func (PySem.W.ksFn "__init__" "TooMany.__init__" (defArgs s_TM) (defBody s_TM) (defScope s_TM) .none kV doc pm an (.ref cda) ct cc), osl⟩)
    (cf : PySem.W.codeIn K (.ref cda) "TooMany.__init__" = true)
    (lc : K.lookup cda = some ⟨ccl, cdd, .fields vs, ccs⟩)
    (v2 : vs[2]? = some (.str file tf))
    (fl : ((P.main.file : Str) == file) = true)
    (lcc : K.lookup cc = some ⟨cl, cld, .cell (some (.ref C4)), csl⟩)
    (cls : PySem.W.clsIn K C4 = some cdat)
    (ns : PySem.W.nsIn K mainGlobals "super" = some none)
    (opq : PySem.W.nsIn K cStatics "thirdparty.any" = some none)
    (htop : (P.main.scope.names.lookup ("super" : Str)).isSome = false)
    (xo : K.lookup C4 = some (excClassObj nm q C4 N bs bm true sn sub ab col dd k0 k1 k2' k3' k5 "ValueError.__new__"))
    (rv : PySem.HandSPX.refsVE bm = true)
    (sa : PySem.W.findIn K (.ref C4) "__setattr__" = some (some (.builtin "object.__setattr__")))
    (mo : PySem.W.mroIn K C4 (.ref C4) = some true)
    (sp : PySem.W.ks_superIn K C4 C4 "__init__" = some (some (.builtin "ValueError.__init__")))
    (ve : PySem.W.subIn K (.ref C4) (.type "ValueError") = some true)
    : ∃ fd, ClsK P K mg C1 C2 C3 C4 f5 fd := by
  refine ⟨PySem.W.ksFn "__init__" "TooMany.__init__" (defArgs s_TM) (defBody s_TM) (defScope s_TM) .none kV doc pm an (.ref cda) ct cc, ⟨⟨x2, PySem.W.mg_of X G g2, k2, b2, t2⟩, ⟨x3, PySem.W.mg_of X G g3, k3, b3, t3⟩, ?_, PySem.W.mg_of X G g1, ⟨e2, e3, e4⟩, ⟨q24, q22, q34, q32, q33, q44⟩,
    ⟨ga2, gg2, b2, hd2, ha2, hn, ht, hm2⟩, ⟨ga3, gg3, b3, hd3, ha3, hn, ht, hm3⟩, ⟨ga4, gg4, b4, hd4, ha4, hn, ht, hm4⟩, ⟨ga4, gg4, b4, hd4⟩, l4⟩⟩
  exact ⟨⟨oc, od, kV, doc, pm, an, cda, cc, ct, osl, rfl, lf, cf, ⟨⟨ccl, cdd, vs, ccs, file, tf, lc, v2, fl⟩, ⟨cl, cld, csl, lcc⟩, ⟨_, cls⟩, PySem.W.mg_none_of X G ns, ⟨_, rfl, rfl⟩, by decide +kernel, by decide +kernel, htop, opq⟩⟩,
    ⟨⟨nm, q, N, bs, bm, sn, sub, ab, col, dd, k0, k1, k2', k3', k5, xo, rv⟩, sa, b4, t4, k4⟩, mo, sp, ve, iC, tI, PySem.W.mg_of X G g4, Binds.all fun us hl => match us, hl with | [_, _], _ => rfl⟩
theorem fin {w : World} {K : PySem.W.Frag} {h : Heap} {mg : Str → Option Value} {a : Nat → Addr} {d : Nat → FuncData} {c39 c41 : Addr} (T : Txt K mg a d) (TK : ToldK K mg a) (TM : TMK PySem.Challenge.rw_waysretraced_k10_whole_thing_texts_bent.prog K mg a d) (hno : PySem.W.findIn K (.ref (a 4)) "limit" = some none) (TJ : TxtJ K mg a d) (TL : TxtL K mg a d)
    (F39 : FunC K "_law_text_right" s__law_text_right (a 39) (d 39) c39) (F41 : FunC K "_law_written_right" s__law_written_right (a 41) (d 41) c41)
    (H39 : PySem.W.CodeHd h c39 251) (T39 : h.get? 251 = some (PySem.W.tabObj #[])) (N39 : K.lookup 251 = none) (H41 : PySem.W.CodeHd h c41 265) (T41 : h.get? 265 = some (PySem.W.tabObj #[])) (N41 : K.lookup 265 = none)
    (hb : ∀ (s : Shared) (u : Value), BindsTo s (d 42) ⟨[u], []⟩ [("script", u)]) : LawAtS PySem.Challenge.rw_waysretraced_k10_whole_thing_texts_bent w K CX0 45 63 "script" mg (a 42) h := by
  refine ⟨d 42, [(c39, 251), (c41, 265)], spLaw [(251, nmTR), (265, nmWR)] K, ?_, ?_, ?_, hb, ?_, ?_⟩
  · intro p hp
    simp only [List.mem_cons, List.not_mem_nil, or_false] at hp
    rcases hp with rfl | rfl
    · exact T39
    · exact T41
  · intro p hp
    simp only [List.mem_cons, List.not_mem_nil, or_false] at hp
    rcases hp with rfl | rfl
    · exact N39
    · exact N41
  · intro p hp
    simp only [List.mem_cons, List.not_mem_nil, or_false] at hp
    rcases hp with rfl | rfl
    · exact H39
    · exact H41
  · intro H a ns hl _ hT hS
    refine ⟨?_, a, ns, rfl, hS, by omega, fun _ => rfl⟩
    intro p hp
    simp only [List.mem_cons, List.not_mem_nil, or_false] at hp
    rcases hp with rfl | rfl
    · exact TabS.nil (hT (c39, 251) (by simp))
    · exact TabS.nil (hT (c41, 265) (by simp))
  · intro base kin ns tb
    have hu : ∀ (Pt : Addr) (n : Str), (Pt, n) ∈ [(251, nmTR), (265, nmWR)] → ∀ p ∈ [(251, nmTR), (265, nmWR)], p.1 = Pt → p.2 = n := by
      intro Pt n hm p hp e
      simp only [List.mem_cons, List.not_mem_nil, or_false, Prod.mk.injEq] at hm hp
      rcases hm with ⟨rfl, rfl⟩ | ⟨rfl, rfl⟩ <;> rcases hp with rfl | rfl
      · rfl
      · exact absurd e (by decide)
      · exact absurd e (by decide)
      · rfl
    have o39 := ok__law_text_right (P := PySem.Challenge.rw_waysretraced_k10_whole_thing_texts_bent.prog) (w := w) (base := base) T TK TM hno F39 (tb (c39, 251) (by simp)) (Tl := [(251, nmTR), (265, nmWR)]) (by simp) (hu _ _ (by simp))
    exact ok_law T TJ TL (ok__law_written_right T TK TJ TM hno F41 (tb (c41, 265) (by simp)) (by simp) (hu _ _ (by simp)) o39) (ok__law_right T TJ TM hno o39)
end K10
open PySem PySem.W PyProof.Rows
theorem PySem.Challenge.cw_waysretraced_k10_whole_thing_texts_bent_holds : PySem.Challenge.rw_waysretraced_k10_whole_thing_texts_bent.Holds := by
  refine K10.hd ?_
  k_fill
  refine TLy.walk_ofX (l := PySem.Challenge.rw_waysretraced_k10_whole_thing_texts_bent) (n := 63) (k := 45) (x := "script") (CX := fun _ => L2.CX0) rfl (by decide) rfl ⟨rfl, by decide, by decide⟩ (fun w h Y => PySem.W.km_in_of Y) ?F (fun _ _ _ _ _ h => h)
  case F =>
    intro w mg fa h KX Y X G hmg
    have HC : ∃ C1 C2 C3 C4 f5 fd5, K10.ClsK PySem.Challenge.rw_waysretraced_k10_whole_thing_texts_bent.prog (K10.hd.heap_39 w.params) mg C1 C2 C3 C4 f5 fd5 := by
      refine' ⟨_, _, _, _, _, K10.cls_mk X G ?g1 ?g2 ?g3 ?g4 ?x2 ?x3 ?k2 ?b2 ?t2 ?e2 ?k3 ?b3 ?t3 ?e3 ?k4 ?b4 ?t4 ?e4 ?q24 ?q22 ?q34 ?q32 ?q33 ?q44 ?ga2 ?gg2 ?hd2 ?ha2 ?hm2 ?ga3 ?gg3 ?hd3 ?ha3 ?hm3 ?ga4 ?gg4 ?hd4 ?ha4 ?hm4 ?hn ?ht ?l4 ?iC ?tI ?lf ?cf ?lc ?v2 ?fl ?lcc ?cls ?ns ?opq ?htop ?xo ?rv ?sa ?mo ?sp ?ve⟩
      case g1 => k_is
      case g2 => k_is
      case g3 => k_is
      case g4 => k_is
      case x2 => first | kernel_rfl | rfl | decide +kernel
      case x3 => first | kernel_rfl | rfl | decide +kernel
      case k2 => k_is
      case b2 => k_is
      case t2 => k_is
      case e2 => first | k_is | rfl | decide +kernel
      case k3 => k_is
      case b3 => k_is
      case t3 => k_is
      case e3 => first | k_is | rfl | decide +kernel
      case k4 => k_is
      case b4 => k_is
      case t4 => k_is
      case e4 => first | k_is | rfl | decide +kernel
      case q24 => first | k_is | rfl | decide +kernel
      case q22 => first | k_is | rfl | decide +kernel
      case q34 => first | k_is | rfl | decide +kernel
      case q32 => first | k_is | rfl | decide +kernel
      case q33 => first | k_is | rfl | decide +kernel
      case q44 => first | k_is | rfl | decide +kernel
      case ga2 => k_is
      case gg2 => k_is
      case hd2 => k_is
      case ha2 => k_is
      case hm2 => k_is
      case ga3 => k_is
      case gg3 => k_is
      case hd3 => k_is
      case ha3 => k_is
      case hm3 => k_is
      case ga4 => k_is
      case gg4 => k_is
      case hd4 => k_is
      case ha4 => k_is
      case hm4 => k_is
      case hn => k_is
      case ht => k_is
      case l4 => k_is
      case iC => k_is
      case tI => k_is
      case lf => first | k_is | rfl
      case cf => k_is
      case lc => first | k_is | rfl
      case v2 => first | rfl | decide +kernel | k_is
      case fl => first | rfl | decide +kernel | k_is
      case lcc => first | k_is | rfl
      case cls => first | k_is | rfl
      case ns => k_is
      case opq => k_is
      case htop => first | rfl | decide +kernel | k_is
      case xo => first | k_is | rfl
      case rv => first | rfl | decide +kernel | k_is
      case sa => k_is
      case mo => k_is
      case sp => first | kernel_rfl | rfl | decide +kernel
      case ve => k_is
    obtain ⟨C1, C2, C3, C4, f5, fd5, HC⟩ := HC
    have D11 : ∃ f fd, K10.DefK (K10.hd.heap_39 w.params) mg "is_sign" K10.s_is_sign ["own"] f fd := by
      refine' ⟨_, _, K10.defK_mk X G ?a ?l ?c ?k (fun _ _ _ _ _ _ us hl => match us, hl with | [_], _ => rfl)⟩
      case a => k_is
      case l => k_is
      case c => k_is
      case k => k_is
    obtain ⟨f11, fd11, D11⟩ := D11
    have D12 : ∃ f fd, K10.DefK (K10.hd.heap_39 w.params) mg "is_thing_in" K10.s_is_thing_in ["value", "deep"] f fd := by
      refine' ⟨_, _, K10.defK_mk X G ?a ?l ?c ?k (fun _ _ _ _ _ _ us hl => match us, hl with | [_, _], _ => rfl)⟩
      case a => k_is
      case l => k_is
      case c => k_is
      case k => k_is
    obtain ⟨f12, fd12, D12⟩ := D12
    have D13 : ∃ f fd, K10.DefK (K10.hd.heap_39 w.params) mg "text_in" K10.s_text_in ["thing"] f fd := by
      refine' ⟨_, _, K10.defK_mk X G ?a ?l ?c ?k (fun _ _ _ _ _ _ us hl => match us, hl with | [_], _ => rfl)⟩
      case a => k_is
      case l => k_is
      case c => k_is
      case k => k_is
    obtain ⟨f13, fd13, D13⟩ := D13
    have D14 : ∃ f fd, K10.DefK (K10.hd.heap_39 w.params) mg "bad" K10.s_bad [] f fd := by
      refine' ⟨_, _, K10.defK_mk X G ?a ?l ?c ?k (fun _ _ _ _ _ _ us hl => match us, hl with | [], _ => rfl)⟩
      case a => k_is
      case l => k_is
      case c => k_is
      case k => k_is
    obtain ⟨f14, fd14, D14⟩ := D14
    have D15 : ∃ f fd, K10.DefK (K10.hd.heap_39 w.params) mg "digits_end" K10.s_digits_end ["text", "at"] f fd := by
      refine' ⟨_, _, K10.defK_mk X G ?a ?l ?c ?k (fun _ _ _ _ _ _ us hl => match us, hl with | [_, _], _ => rfl)⟩
      case a => k_is
      case l => k_is
      case c => k_is
      case k => k_is
    obtain ⟨f15, fd15, D15⟩ := D15
    have D16 : ∃ f fd, K10.DefK (K10.hd.heap_39 w.params) mg "number_at" K10.s_number_at ["text", "at"] f fd := by
      refine' ⟨_, _, K10.defK_mk X G ?a ?l ?c ?k (fun _ _ _ _ _ _ us hl => match us, hl with | [_, _], _ => rfl)⟩
      case a => k_is
      case l => k_is
      case c => k_is
      case k => k_is
    obtain ⟨f16, fd16, D16⟩ := D16
    have D17 : ∃ f fd, K10.DefK (K10.hd.heap_39 w.params) mg "text_at" K10.s_text_at ["text", "at"] f fd := by
      refine' ⟨_, _, K10.defK_mk X G ?a ?l ?c ?k (fun _ _ _ _ _ _ us hl => match us, hl with | [_, _], _ => rfl)⟩
      case a => k_is
      case l => k_is
      case c => k_is
      case k => k_is
    obtain ⟨f17, fd17, D17⟩ := D17
    have D18 : ∃ f fd, K10.DefK (K10.hd.heap_39 w.params) mg "thing_at" K10.s_thing_at ["text", "at", "deep"] f fd := by
      refine' ⟨_, _, K10.defK_mk X G ?a ?l ?c ?k (fun _ _ _ _ _ _ us hl => match us, hl with | [_, _, _], _ => rfl)⟩
      case a => k_is
      case l => k_is
      case c => k_is
      case k => k_is
    obtain ⟨f18, fd18, D18⟩ := D18
    have D19 : ∃ f fd, K10.DefK (K10.hd.heap_39 w.params) mg "thing_of_text" K10.s_thing_of_text ["text"] f fd := by
      refine' ⟨_, _, K10.defK_mk X G ?a ?l ?c ?k (fun _ _ _ _ _ _ us hl => match us, hl with | [_], _ => rfl)⟩
      case a => k_is
      case l => k_is
      case c => k_is
      case k => k_is
    obtain ⟨f19, fd19, D19⟩ := D19
    have D20 : ∃ f fd, K10.DefK (K10.hd.heap_39 w.params) mg "need_thing" K10.s_need_thing ["value"] f fd := by
      refine' ⟨_, _, K10.defK_mk X G ?a ?l ?c ?k (fun _ _ _ _ _ _ us hl => match us, hl with | [_], _ => rfl)⟩
      case a => k_is
      case l => k_is
      case c => k_is
      case k => k_is
    obtain ⟨f20, fd20, D20⟩ := D20
    have D21 : ∃ f fd, K10.DefK (K10.hd.heap_39 w.params) mg "is_thing" K10.s_is_thing ["value"] f fd := by
      refine' ⟨_, _, K10.defK_mk X G ?a ?l ?c ?k (fun _ _ _ _ _ _ us hl => match us, hl with | [_], _ => rfl)⟩
      case a => k_is
      case l => k_is
      case c => k_is
      case k => k_is
    obtain ⟨f21, fd21, D21⟩ := D21
    have D22 : ∃ f fd, K10.DefK (K10.hd.heap_39 w.params) mg "thing_text" K10.s_thing_text ["value"] f fd := by
      refine' ⟨_, _, K10.defK_mk X G ?a ?l ?c ?k (fun _ _ _ _ _ _ us hl => match us, hl with | [_], _ => rfl)⟩
      case a => k_is
      case l => k_is
      case c => k_is
      case k => k_is
    obtain ⟨f22, fd22, D22⟩ := D22
    have D23 : ∃ f fd, K10.DefK (K10.hd.heap_39 w.params) mg "read_thing" K10.s_read_thing ["text"] f fd := by
      refine' ⟨_, _, K10.defK_mk X G ?a ?l ?c ?k (fun _ _ _ _ _ _ us hl => match us, hl with | [_], _ => rfl)⟩
      case a => k_is
      case l => k_is
      case c => k_is
      case k => k_is
    obtain ⟨f23, fd23, D23⟩ := D23
    have D25 : ∃ f fd, K10.DefK (K10.hd.heap_39 w.params) mg "_law_cup" K10.s__law_cup ["script"] f fd := by
      refine' ⟨_, _, K10.defK_mk X G ?a ?l ?c ?k (fun _ _ _ _ _ _ us hl => match us, hl with | [_], _ => rfl)⟩
      case a => k_is
      case l => k_is
      case c => k_is
      case k => k_is
    obtain ⟨f25, fd25, D25⟩ := D25
    have D26 : ∃ f fd, K10.DefK (K10.hd.heap_39 w.params) mg "_law_roll" K10.s__law_roll ["cup", "many"] f fd := by
      refine' ⟨_, _, K10.defK_mk X G ?a ?l ?c ?k (fun _ _ _ _ _ _ us hl => match us, hl with | [_, _], _ => rfl)⟩
      case a => k_is
      case l => k_is
      case c => k_is
      case k => k_is
    obtain ⟨f26, fd26, D26⟩ := D26
    have D27 : ∃ f fd, K10.DefK (K10.hd.heap_39 w.params) mg "_law_some" K10.s__law_some ["cup", "things"] f fd := by
      refine' ⟨_, _, K10.defK_mk X G ?a ?l ?c ?k (fun _ _ _ _ _ _ us hl => match us, hl with | [_, _], _ => rfl)⟩
      case a => k_is
      case l => k_is
      case c => k_is
      case k => k_is
    obtain ⟨f27, fd27, D27⟩ := D27
    have D28 : ∃ f fd, K10.DefK (K10.hd.heap_39 w.params) mg "_law_sort" K10.s__law_sort ["value"] f fd := by
      refine' ⟨_, _, K10.defK_mk X G ?a ?l ?c ?k (fun _ _ _ _ _ _ us hl => match us, hl with | [_], _ => rfl)⟩
      case a => k_is
      case l => k_is
      case c => k_is
      case k => k_is
    obtain ⟨f28, fd28, D28⟩ := D28
    have D29 : ∃ f fd, K10.DefK (K10.hd.heap_39 w.params) mg "_law_like" K10.s__law_like ["one", "other"] f fd := by
      refine' ⟨_, _, K10.defK_mk X G ?a ?l ?c ?k (fun _ _ _ _ _ _ us hl => match us, hl with | [_, _], _ => rfl)⟩
      case a => k_is
      case l => k_is
      case c => k_is
      case k => k_is
    obtain ⟨f29, fd29, D29⟩ := D29
    have D30 : ∃ f fd, K10.DefK (K10.hd.heap_39 w.params) mg "_law_told" K10.s__law_told ["call"] f fd := by
      refine' ⟨_, _, K10.defK_mk X G ?a ?l ?c ?k (fun _ _ _ _ _ _ us hl => match us, hl with | [_], _ => rfl)⟩
      case a => k_is
      case l => k_is
      case c => k_is
      case k => k_is
    obtain ⟨f30, fd30, D30⟩ := D30
    have D31 : ∃ f fd, K10.DefK (K10.hd.heap_39 w.params) mg "_law_great" K10.s__law_great [] f fd := by
      refine' ⟨_, _, K10.defK_mk X G ?a ?l ?c ?k (fun _ _ _ _ _ _ us hl => match us, hl with | [], _ => rfl)⟩
      case a => k_is
      case l => k_is
      case c => k_is
      case k => k_is
    obtain ⟨f31, fd31, D31⟩ := D31
    have D32 : ∃ f fd, K10.DefK (K10.hd.heap_39 w.params) mg "_law_text" K10.s__law_text ["thing"] f fd := by
      refine' ⟨_, _, K10.defK_mk X G ?a ?l ?c ?k (fun _ _ _ _ _ _ us hl => match us, hl with | [_], _ => rfl)⟩
      case a => k_is
      case l => k_is
      case c => k_is
      case k => k_is
    obtain ⟨f32, fd32, D32⟩ := D32
    have D33 : ∃ f fd, K10.DefK (K10.hd.heap_39 w.params) mg "_law_digits" K10.s__law_digits ["text", "at"] f fd := by
      refine' ⟨_, _, K10.defK_mk X G ?a ?l ?c ?k (fun _ _ _ _ _ _ us hl => match us, hl with | [_, _], _ => rfl)⟩
      case a => k_is
      case l => k_is
      case c => k_is
      case k => k_is
    obtain ⟨f33, fd33, D33⟩ := D33
    have D34 : ∃ f fd, K10.DefK (K10.hd.heap_39 w.params) mg "_law_read" K10.s__law_read ["text", "at", "deep"] f fd := by
      refine' ⟨_, _, K10.defK_mk X G ?a ?l ?c ?k (fun _ _ _ _ _ _ us hl => match us, hl with | [_, _, _], _ => rfl)⟩
      case a => k_is
      case l => k_is
      case c => k_is
      case k => k_is
    obtain ⟨f34, fd34, D34⟩ := D34
    have D35 : ∃ f fd, K10.DefK (K10.hd.heap_39 w.params) mg "_law_items" K10.s__law_items ["text", "at", "deep"] f fd := by
      refine' ⟨_, _, K10.defK_mk X G ?a ?l ?c ?k (fun _ _ _ _ _ _ us hl => match us, hl with | [_, _, _], _ => rfl)⟩
      case a => k_is
      case l => k_is
      case c => k_is
      case k => k_is
    obtain ⟨f35, fd35, D35⟩ := D35
    have D36 : ∃ f fd, K10.DefK (K10.hd.heap_39 w.params) mg "_law_leaf" K10.s__law_leaf ["cup"] f fd := by
      refine' ⟨_, _, K10.defK_mk X G ?a ?l ?c ?k (fun _ _ _ _ _ _ us hl => match us, hl with | [_], _ => rfl)⟩
      case a => k_is
      case l => k_is
      case c => k_is
      case k => k_is
    obtain ⟨f36, fd36, D36⟩ := D36
    have D37 : ∃ f fd, K10.DefK (K10.hd.heap_39 w.params) mg "_law_thing" K10.s__law_thing ["cup"] f fd := by
      refine' ⟨_, _, K10.defK_mk X G ?a ?l ?c ?k (fun _ _ _ _ _ _ us hl => match us, hl with | [_], _ => rfl)⟩
      case a => k_is
      case l => k_is
      case c => k_is
      case k => k_is
    obtain ⟨f37, fd37, D37⟩ := D37
    have D38 : ∃ f fd, K10.DefK (K10.hd.heap_39 w.params) mg "_law_bent" K10.s__law_bent ["cup", "text"] f fd := by
      refine' ⟨_, _, K10.defK_mk X G ?a ?l ?c ?k (fun _ _ _ _ _ _ us hl => match us, hl with | [_, _], _ => rfl)⟩
      case a => k_is
      case l => k_is
      case c => k_is
      case k => k_is
    obtain ⟨f38, fd38, D38⟩ := D38
    have D39 : ∃ f fd c Pt, (K10.DefK (K10.hd.heap_39 w.params) mg "_law_text_right" K10.s__law_text_right ["text"] f fd ∧ K10.FunC (K10.hd.heap_39 w.params) "_law_text_right" K10.s__law_text_right f fd c) ∧ PySem.W.CodeHd h c Pt ∧ h.get? Pt = some (tabObj #[]) ∧ (K10.hd.heap_39 w.params).lookup Pt = none ∧ Pt = 251 := by
      refine' ⟨_, _, _, 251, K10.defK_mkC X G ?a ?l ?c ?k (fun _ _ _ _ _ _ us hl => match us, hl with | [_], _ => rfl), PySem.W.codeHd_of_K X ?h, PySem.W.km_tabs_of Y _ (by decide), ?n, rfl⟩
      case a => k_is
      case l => k_is
      case c => k_is
      case k => k_is
      case h => kernel_rfl
      case n => kernel_rfl
    obtain ⟨f39, fd39, c39, P39, ⟨D39, F39⟩, H39, T39, N39, E39⟩ := D39
    have D40 : ∃ f fd, K10.DefK (K10.hd.heap_39 w.params) mg "_law_right" K10.s__law_right ["cup"] f fd := by
      refine' ⟨_, _, K10.defK_mk X G ?a ?l ?c ?k (fun _ _ _ _ _ _ us hl => match us, hl with | [_], _ => rfl)⟩
      case a => k_is
      case l => k_is
      case c => k_is
      case k => k_is
    obtain ⟨f40, fd40, D40⟩ := D40
    have D41 : ∃ f fd c Pt, (K10.DefK (K10.hd.heap_39 w.params) mg "_law_written_right" K10.s__law_written_right [] f fd ∧ K10.FunC (K10.hd.heap_39 w.params) "_law_written_right" K10.s__law_written_right f fd c) ∧ PySem.W.CodeHd h c Pt ∧ h.get? Pt = some (tabObj #[]) ∧ (K10.hd.heap_39 w.params).lookup Pt = none ∧ Pt = 265 := by
      refine' ⟨_, _, _, 265, K10.defK_mkC X G ?a ?l ?c ?k (fun _ _ _ _ _ _ us hl => match us, hl with | [], _ => rfl), PySem.W.codeHd_of_K X ?h, PySem.W.km_tabs_of Y _ (by decide), ?n, rfl⟩
      case a => k_is
      case l => k_is
      case c => k_is
      case k => k_is
      case h => kernel_rfl
      case n => kernel_rfl
    obtain ⟨f41, fd41, c41, P41, ⟨D41, F41⟩, H41, T41, N41, E41⟩ := D41
    have D42 : ∃ f fd, K10.DefK (K10.hd.heap_39 w.params) mg "law" K10.s_law ["script"] f fd ∧ ∀ (s : Shared) (u : Value), BindsTo s fd ⟨[u], []⟩ [("script", u)] := by
      refine' ⟨_, _, K10.defK_mk X G ?a ?l ?c ?k (fun _ _ _ _ _ _ us hl => match us, hl with | [_], _ => rfl), fun s u => .of_eq rfl⟩
      case a => k_is
      case l => k_is
      case c => k_is
      case k => k_is
    obtain ⟨f42, fd42, D42, hb⟩ := D42
    have n_len : mg "len" = none := PySem.W.mg_none_of X G (by k_is)
    have n_str : mg "str" = none := PySem.W.mg_none_of X G (by k_is)
    have n_bool : mg "bool" = none := PySem.W.mg_none_of X G (by k_is)
    have n_tuple : mg "tuple" = none := PySem.W.mg_none_of X G (by k_is)
    have n_abs : mg "abs" = none := PySem.W.mg_none_of X G (by k_is)
    have n_int : mg "int" = none := PySem.W.mg_none_of X G (by k_is)
    have n_all : mg "all" = none := PySem.W.mg_none_of X G (by k_is)
    have n_zip : mg "zip" = none := PySem.W.mg_none_of X G (by k_is)
    have n_list : mg "list" = none := PySem.W.mg_none_of X G (by k_is)
    have n_isinstance : mg "isinstance" = none := PySem.W.mg_none_of X G (by k_is)
    have n_ord : mg "ord" = none := PySem.W.mg_none_of X G (by k_is)
    have n_range : mg "range" = none := PySem.W.mg_none_of X G (by k_is)
    have c_DEEP : ∃ t, mg "DEEP" = some (.int 20 t) := ⟨_, PySem.W.mg_of X G (by k_is)⟩
    have c_SIGNS : ∃ t, mg "SIGNS" = some (.int 2000 t) := ⟨_, PySem.W.mg_of X G (by k_is)⟩
    have c_LONG : ∃ t, mg "LONG" = some (.int 60000 t) := ⟨_, PySem.W.mg_of X G (by k_is)⟩
    have c_DIGITS : ∃ t, mg "DIGITS" = some (.str "0123456789" t) := ⟨_, PySem.W.mg_of X G (by k_is)⟩
    have c_MOST : ∃ t, mg "MOST" = some (.int K10.MOSTv t) := by
      obtain ⟨v, a, b⟩ := KX.2.val _ (.head _)
      obtain ⟨t, rfl, _⟩ := PySem.W.readsW_int_inv b
      exact ⟨t, a⟩
    have hf : f42 = fa := by
      have e := D42.g.symm.trans hmg
      cases e
      rfl
    subst hf
    let a : Nat → Addr := fun n => match n with | 1 => C1 | 2 => C2 | 3 => C3 | 4 => C4 | 5 => f5 | 11 => f11 | 12 => f12 | 13 => f13 | 14 => f14 | 15 => f15 | 16 => f16 | 17 => f17 | 18 => f18 | 19 => f19 | 20 => f20 | 21 => f21 | 22 => f22 | 23 => f23 | 25 => f25 | 26 => f26 | 27 => f27 | 28 => f28 | 29 => f29 | 30 => f30 | 31 => f31 | 32 => f32 | 33 => f33 | 34 => f34 | 35 => f35 | 36 => f36 | 37 => f37 | 38 => f38 | 39 => f39 | 40 => f40 | 41 => f41 | 42 => f42 | _ => 0
    let d : Nat → FuncData := fun n => match n with | 5 => fd5 | 11 => fd11 | 12 => fd12 | 13 => fd13 | 14 => fd14 | 15 => fd15 | 16 => fd16 | 17 => fd17 | 18 => fd18 | 19 => fd19 | 20 => fd20 | 21 => fd21 | 22 => fd22 | 23 => fd23 | 25 => fd25 | 26 => fd26 | 27 => fd27 | 28 => fd28 | 29 => fd29 | 30 => fd30 | 31 => fd31 | 32 => fd32 | 33 => fd33 | 34 => fd34 | 35 => fd35 | 36 => fd36 | 37 => fd37 | 38 => fd38 | 39 => fd39 | 40 => fd40 | 41 => fd41 | 42 => fd42 | _ => fd42
    have T : K10.Txt (K10.hd.heap_39 w.params) mg a d := { n_len := n_len, n_str := n_str, n_bool := n_bool, n_tuple := n_tuple, n_abs := n_abs, n_int := n_int, n_all := n_all, n_zip := n_zip, n_list := n_list, n_isinstance := n_isinstance, n_ord := n_ord, n_range := n_range, c_DEEP := c_DEEP, c_SIGNS := c_SIGNS, c_LONG := c_LONG, c_MOST := c_MOST, c_DIGITS := c_DIGITS, InvalidText := HC.IT, InvalidSort := HC.IS, is_sign := D11, is_thing_in := D12, text_in := D13, bad := D14, digits_end := D15, number_at := D16, text_at := D17, thing_at := D18, thing_of_text := D19, need_thing := D20, is_thing := D21, thing_text := D22, read_thing := D23, _law_cup := D25, _law_roll := D26, _law_some := D27, _law_sort := D28, _law_like := D29, _law_told := D30, _law_great := D31, _law_text := D32, _law_digits := D33, _law_read := D34, _law_items := D35, _law_leaf := D36, _law_thing := D37, _law_bent := D38 }
    have TK : K10.ToldK (K10.hd.heap_39 w.params) mg a := { gTE := HC.gTE, gIT := HC.IT.g, gIS := HC.IS.g, gTM := HC.TM.g, e2 := HC.ex.1, e3 := HC.ex.2.1, e4 := HC.ex.2.2, k24 := HC.ki.1, k22 := HC.ki.2.1, k34 := HC.ki.2.2.1, k32 := HC.ki.2.2.2.1, k33 := HC.ki.2.2.2.2.1, k44 := HC.ki.2.2.2.2.2, x2 := HC.x2, x3 := HC.x3, x4 := HC.x4, f4 := HC.f4, l4 := HC.l4, n_isinstance := n_isinstance, n_str := n_str }
    exact K10.fin (a := a) (d := d) T TK HC.TM HC.l4 ⟨D39, D40⟩ ⟨D41, D42⟩ F39 F41 (E39 ▸ H39) (E39 ▸ T39) (E39 ▸ N39) (E41 ▸ H41) (E41 ▸ T41) (E41 ▸ N41) hb
