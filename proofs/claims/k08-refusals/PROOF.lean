import PyProof.Rows.All
import Wide.All
import OpenK.AllK
import Wide.FinOn
import HandS.Comp
import HandS.Words
import HandS.List
import HandS.TupAny
import HandS.Property
import HandS.WordsExc
import HandS.Walk
import HandS.SetFor
import HandS.SortInts
import HandS.Strs
import HandS.TupSets
import HandS.SetKeys
import HandS.TupMul
import PyProof.DictMoreH
import HandS.IsInst
import HandS.Conv
import HandS.Style
import HandS.Dict
import HandS.Exc
import HandS.ExcOwn
import HandS.ExcIs
import PySem.Challenge.RW_pilereach_k08_net_refusals
set_option Elab.async false
set_option linter.all false
set_option maxRecDepth 100000
set_option maxHeartbeats 4000000
namespace Pd
open PySem L2

/-- data: what a value stands for -/
inductive D where
  | non | bl (b : Bool) | int (i : Int) | str (s : Str)
  | tup (xs : List D) | lst (xs : List D) | sls (xs : List D)
  | ins (C : Addr) (fs : List (Str × D))
  | dK (kvs : List (Key × D)) | dT (kvs : List (List Key × D))
  | ty (n : String) | cls (C : Addr)

mutual
inductive At (K : PySem.W.Frag) (G : Hp) : D → V → Prop
  | non : At K G .non .non
  | bl {b : Bool} : At K G (.bl b) (.bl b)
  | int {i : Int} : At K G (.int i) (.int i)
  | str {s : Str} : At K G (.str s) (.str s)
  | tup {a : Addr} {ds : List D} {vs : List V} (h : SqT K G a vs) (l : AtL K G ds vs) : At K G (.tup ds) (.ref a)
  | lst {a : Addr} {ds : List D} {vs : List V} (h : G a = some (.lst vs)) (l : AtL K G ds vs) : At K G (.lst ds) (.ref a)
  | sls {a : Addr} {ds : List D} {vs : List V} (h : SqL K G a vs) (l : AtL K G ds vs) : At K G (.sls ds) (.ref a)
  | ins {a C dx : Addr} {fs : List (Str × D)} {gs : List (Str × V)} (h : G a = some (.ins C dx gs)) (l : AtP K G fs gs) : At K G (.ins C fs) (.ref a)
  | dK {a : Addr} {ds : List (Key × D)} {vs : List (Key × V)} (h : G a = some (.dK vs)) (l : AtP K G ds vs) : At K G (.dK ds) (.ref a)
  | dT {a : Addr} {ds : List (List Key × D)} {vs : List (List Key × V)} (h : G a = some (.dT vs)) (l : AtP K G ds vs) : At K G (.dT ds) (.ref a)
  | ty {n : String} : At K G (.ty n) (.ty n)
  | cls {C : Addr} : At K G (.cls C) (.ref C)
inductive AtL (K : PySem.W.Frag) (G : Hp) : List D → List V → Prop
  | nil : AtL K G [] []
  | cons {d : D} {v : V} {ds : List D} {vs : List V} (h : At K G d v) (t : AtL K G ds vs) : AtL K G (d :: ds) (v :: vs)
inductive AtP (K : PySem.W.Frag) (G : Hp) : {k : Type} → List (k × D) → List (k × V) → Prop
  | nil {k : Type} : AtP K G (k := k) [] []
  | cons {k : Type} {x : k} {d : D} {v : V} {ds : List (k × D)} {vs : List (k × V)} (h : At K G d v) (t : AtP K G ds vs) : AtP K G ((x, d) :: ds) ((x, v) :: vs)
end

section
variable {K : PySem.W.Frag} {G G' : Hp}
theorem same_t {a : Addr} {xs : List V} (e : Same G G') (h : SqT K G a xs) : SqT K G' a xs := by
  rcases h with (h | ⟨o, h⟩) | h
  · exact .inl (.inl (e _ _ h))
  · exact .inl (.inr ⟨o, e _ _ h⟩)
  · exact .inr h
mutual
theorem At.mono (e : Same G G') : ∀ {d : D} {v : V}, At K G d v → At K G' d v
  | _, _, .non => .non
  | _, _, .bl => .bl
  | _, _, .int => .int
  | _, _, .str => .str
  | _, _, .tup h l => .tup (same_t e h) (AtL.mono e l)
  | _, _, .lst h l => .lst (e _ _ h) (AtL.mono e l)
  | _, _, .sls h l => .sls (e.seq h) (AtL.mono e l)
  | _, _, .ins h l => .ins (e _ _ h) (AtP.mono e l)
  | _, _, .dK h l => .dK (e _ _ h) (AtP.mono e l)
  | _, _, .dT h l => .dT (e _ _ h) (AtP.mono e l)
  | _, _, .ty => .ty
  | _, _, .cls => .cls
theorem AtL.mono (e : Same G G') : ∀ {d : List D} {v : List V}, AtL K G d v → AtL K G' d v
  | _, _, .nil => .nil
  | _, _, .cons h t => .cons (At.mono e h) (AtL.mono e t)
theorem AtP.mono (e : Same G G') : ∀ {k : Type} {d : List (k × D)} {v : List (k × V)}, AtP K G d v → AtP K G' d v
  | _, _, _, .nil => .nil
  | _, _, _, .cons h t => .cons (At.mono e h) (AtP.mono e t)
end
theorem AtL.length : ∀ {ds : List D} {vs : List V}, AtL K G ds vs → vs.length = ds.length
  | _, _, .nil => rfl
  | _, _, .cons _ t => congrArg Nat.succ (AtL.length t)
theorem AtL.get : ∀ {ds : List D} {vs : List V} {i : Nat} {v : V}, AtL K G ds vs → vs[i]? = some v → ∃ d, ds[i]? = some d ∧ At K G d v
  | _, _, _, _, .nil, e => by simp at e
  | _, _, 0, _, .cons h _, e => by simp at e; subst e; exact ⟨_, rfl, h⟩
  | _, _, i + 1, _, .cons _ t, e => by
    obtain ⟨d, h1, h2⟩ := AtL.get t (i := i) (by simpa using e)
    exact ⟨d, by simpa using h1, h2⟩
theorem AtL.at_ : ∀ {ds : List D} {vs : List V} {i : Nat} {d : D}, AtL K G ds vs → ds[i]? = some d → ∃ v, vs[i]? = some v ∧ At K G d v
  | _, _, _, _, .nil, e => by simp at e
  | _, _, 0, _, .cons h _, e => by simp at e; subst e; exact ⟨_, rfl, h⟩
  | _, _, i + 1, _, .cons _ t, e => by
    obtain ⟨d, h1, h2⟩ := AtL.at_ t (i := i) (by simpa using e)
    exact ⟨d, by simpa using h1, h2⟩
theorem AtL.app : ∀ {ds es : List D} {vs ws : List V}, AtL K G ds vs → AtL K G es ws → AtL K G (ds ++ es) (vs ++ ws)
  | _, _, _, _, .nil, s => s
  | _, _, _, _, .cons h t, s => .cons h (AtL.app t s)
theorem AtL.take : ∀ {ds : List D} {vs : List V} (n : Nat), AtL K G ds vs → AtL K G (ds.take n) (vs.take n)
  | _, _, 0, _ => .nil
  | _, _, _ + 1, .nil => .nil
  | _, _, n + 1, .cons h t => .cons h (AtL.take n t)
theorem AtL.drop : ∀ {ds : List D} {vs : List V} (n : Nat), AtL K G ds vs → AtL K G (ds.drop n) (vs.drop n)
  | _, _, 0, r => r
  | _, _, _ + 1, .nil => .nil
  | _, _, n + 1, .cons _ t => AtL.drop n t
theorem AtL.rev : ∀ {ds : List D} {vs : List V}, AtL K G ds vs → AtL K G ds.reverse vs.reverse
  | _, _, .nil => .nil
  | _, _, .cons h t => by
    rw [List.reverse_cons, List.reverse_cons]
    exact AtL.app (AtL.rev t) (.cons h .nil)
theorem AtL.set {x : D} {u : V} (r : At K G x u) : ∀ {ds : List D} {vs : List V} (i : Nat), AtL K G ds vs → AtL K G (ds.set i x) (vs.set i u)
  | _, _, _, .nil => .nil
  | _, _, 0, .cons _ t => .cons r t
  | _, _, i + 1, .cons q t => .cons q (AtL.set r i t)
theorem AtL.of_map {α : Type} {f : α → D} {g : α → V} (h : ∀ x, At K G (f x) (g x)) : ∀ xs : List α, AtL K G (xs.map f) (xs.map g)
  | [] => .nil
  | x :: xs => .cons (h x) (AtL.of_map h xs)
theorem AtL.ints : ∀ {ns : List Int} {vs : List V}, AtL K G (ns.map D.int) vs → vs = ns.map V.int
  | [], _, .nil => rfl
  | n :: ns, _, .cons (.int) t => by rw [AtL.ints t]; rfl
theorem AtL.bls : ∀ {ns : List Bool} {vs : List V}, AtL K G (ns.map D.bl) vs → vs = ns.map V.bl
  | [], _, .nil => rfl
  | n :: ns, _, .cons (.bl) t => by rw [AtL.bls t]; rfl
theorem AtP.lookup {f : Str} : ∀ {ds : List (Str × D)} {vs : List (Str × V)} {d : D}, AtP K G ds vs → ds.lookup f = some d → ∃ v, vs.lookup f = some v ∧ At K G d v
  | _, _, _, .nil, e => by cases e
  | _, _, d, .cons (x := x) h t, e => by
    rw [List.lookup_cons] at e ⊢
    split at e
    · rename_i q
      cases e
      exact ⟨_, rfl, h⟩
    · rename_i q
      exact AtP.lookup t e
theorem AtP.lookup_none {f : Str} : ∀ {ds : List (Str × D)} {vs : List (Str × V)}, AtP K G ds vs → ds.lookup f = none → vs.lookup f = none
  | _, _, .nil, e => rfl
  | _, _, .cons (x := x) h t, e => by
    rw [List.lookup_cons] at e ⊢
    split at e
    · cases e
    · exact AtP.lookup_none t e
theorem AtP.length : ∀ {k : Type} {ds : List (k × D)} {vs : List (k × V)}, AtP K G ds vs → vs.length = ds.length
  | _, _, _, .nil => rfl
  | _, _, _, .cons _ t => congrArg Nat.succ (AtP.length t)
end

/-- a list that is read -/
def isSeq : D → List D → Prop
  | .lst ds, es => ds = es
  | .sls ds, es => ds = es
  | _, _ => False
theorem At.seqL {K : PySem.W.Frag} {G : Hp} {d : D} {ds : List D} {v : V} (q : isSeq d ds) (h : At K G d v) : ∃ a vs, v = .ref a ∧ SqL K G a vs ∧ AtL K G ds vs := by
  cases h with
  | lst h l => cases (show _ = _ from q); exact ⟨_, _, rfl, .inl (.inl h), l⟩
  | sls h l => cases (show _ = _ from q); exact ⟨_, _, rfl, h, l⟩
  | _ => exact (show False from q).elim
/-- attributes, one put: on data as on values -/
def putD (f : Str) (d : D) : List (Str × D) → List (Str × D)
  | [] => [(f, d)]
  | (g, e) :: r => if g = f then (g, d) :: r else (g, e) :: putD f d r

structure Le (G H G' H' : Hp) : Prop where
  g : Same G G'
  h : Same H H'
  s : Same G' H'
  n : ∀ a o, H a = some o → G a = none → G' a = none
theorem Le.refl {G H : Hp} (s : Same G H) : Le G H G H := ⟨Same.refl _, Same.refl _, s, fun _ _ _ h => h⟩
theorem Le.trans {G H G1 H1 G2 H2 : Hp} (a : Le G H G1 H1) (b : Le G1 H1 G2 H2) : Le G H G2 H2 :=
  ⟨a.g.trans b.g, a.h.trans b.h, b.s, fun x o h1 h2 => b.n x o (a.h _ _ h1) (a.n x o h1 h2)⟩
theorem same_upd {H : Hp} {p : Addr} {o : HO} (h : H p = none) : Same H (upd H p o) := fun b u e => by
  rw [upd_ne (ne_of_none e h)]
  exact e
theorem same_none {G H : Hp} (s : Same G H) {p : Addr} (h : H p = none) : G p = none := s.free h
theorem Le.new {G H : Hp} {p : Addr} {o : HO} (s : Same G H) (h : H p = none) : Le G H (upd G p o) (upd H p o) := by
  refine ⟨same_upd (s.free h), same_upd h, fun b u e => ?_, fun a u h1 h2 => ?_⟩
  · by_cases q : b = p
    · subst q
      rw [upd_same] at e ⊢
      exact e
    · rw [upd_ne q] at e ⊢
      exact s _ _ e
  · rw [upd_ne (ne_of_none h1 h)]
    exact h2
theorem Le.newH {G H : Hp} {p : Addr} {o : HO} (s : Same G H) (h : H p = none) : Le G H G (upd H p o) :=
  ⟨Same.refl _, same_upd h, s.trans (same_upd h), fun _ _ _ h => h⟩
/-- a new thing is settled -/
theorem Le.close {G H G' H' : Hp} {p : Addr} {o : HO} (l : Le G H G' H') (h : H p = none) (g : G' p = none) (e : H' p = some o) : Le G H (upd G' p o) H' := by
  refine ⟨l.g.trans (same_upd g), l.h, fun b u q => ?_, fun a u h1 h2 => ?_⟩
  · by_cases z : b = p
    · subst z
      rw [upd_same] at q
      rw [e]
      exact q
    · rw [upd_ne z] at q
      exact l.s _ _ q
  · rw [upd_ne (ne_of_none h1 h)]
    exact l.n a u h1 h2
/-- a thing that was not there at first changes -/
theorem Le.mut {G H G' H' : Hp} {p : Addr} {o : HO} (l : Le G H G' H') (h : H p = none) (g : G' p = none) : Le G H G' (upd H' p o) := by
  refine ⟨l.g, fun b u q => ?_, fun b u q => ?_, l.n⟩
  · rw [upd_ne (ne_of_none q h)]
    exact l.h _ _ q
  · rw [upd_ne (ne_of_none q g)]
    exact l.s _ _ q

inductive OO where
  | lst (ds : List D) | ins (x C : Addr) (fs : List (Str × D)) | dK (kvs : List (Key × D)) | dT (kvs : List (List Key × D))
def OO.d : OO → D
  | .lst ds => .lst ds
  | .ins _ C fs => .ins C fs
  | .dK k => .dK k
  | .dT k => .dT k
inductive HOat (K : PySem.W.Frag) (G : Hp) : Addr → OO → HO → Prop
  | lst {ds : List D} {vs : List V} {p : Addr} (l : AtL K G ds vs) : HOat K G p (.lst ds) (.lst vs)
  | ins {p C dx : Addr} {fs : List (Str × D)} {gs : List (Str × V)} (l : AtP K G fs gs) : HOat K G p (.ins p C fs) (.ins C dx gs)
  | dK {ds : List (Key × D)} {vs : List (Key × V)} {p : Addr} (l : AtP K G ds vs) : HOat K G p (.dK ds) (.dK vs)
  | dT {ds : List (List Key × D)} {vs : List (List Key × V)} {p : Addr} (l : AtP K G ds vs) : HOat K G p (.dT ds) (.dT vs)
theorem HOat.mono {K : PySem.W.Frag} {G G' : Hp} (e : Same G G') {p : Addr} {o : OO} {h : HO} : HOat K G p o h → HOat K G' p o h
  | .lst l => .lst (l.mono e)
  | .ins l => .ins (l.mono e)
  | .dK l => .dK (l.mono e)
  | .dT l => .dT (l.mono e)
theorem HOat.close {K : PySem.W.Frag} {G : Hp} {o : OO} {h : HO} {p : Addr} (g : G p = none) (x : HOat K G p o h) : At K (upd G p h) o.d (.ref p) := by
  have e : Same G (upd G p h) := same_upd g
  cases x with
  | lst l => exact .lst upd_same (l.mono e)
  | ins l => exact .ins upd_same (l.mono e)
  | dK l => exact .dK upd_same (l.mono e)
  | dT l => exact .dT upd_same (l.mono e)

/-- a slot: nothing told | settled data | an own thing -/
inductive B where
  | no | val (d : D) | own (o : OO)
/-- what comes out: settled data | a new thing -/
inductive R where
  | v (d : D) | n (o : OO)
  /-- a new tuple: settled items, then two new lists -/
  | t (pre es xs : List D)
def B.of : R → B
  | .v d => .val d
  | .n o => .own o
  | .t _ _ _ => .no
def R.d : R → D
  | .v d => d
  | .n o => o.d
  | .t pre es xs => .tup (pre ++ [.lst es, .lst xs])
inductive Bd (K : PySem.W.Frag) (H0 G H : Hp) : B → Option V → Prop
  | no {x : Option V} : Bd K H0 G H .no x
  | val {d : D} {v : V} (h : At K G d v) : Bd K H0 G H (.val d) (some v)
  | own {o : OO} {l : Addr} {h : HO} (e : H l = some h) (x : HOat K G l o h) (g : G l = none) (n : H0 l = none) : Bd K H0 G H (.own o) (some (.ref l))
inductive RAt (K : PySem.W.Frag) (H G' H' : Hp) : R → V → Prop
  | v {d : D} {u : V} (h : At K G' d u) : RAt K H G' H' (.v d) u
  | n {o : OO} {l : Addr} {h : HO} (e : H' l = some h) (x : HOat K G' l o h) (g : G' l = none) (n : H l = none) : RAt K H G' H' (.n o) (.ref l)
  | t {pre es xs : List D} {p a b : Addr} {vs ws us : List V} (e : H' p = some (.tup (vs ++ [.ref a, .ref b]))) (l : AtL K G' pre vs) (ea : H' a = some (.lst ws)) (la : AtL K G' es ws) (eb : H' b = some (.lst us)) (lb : AtL K G' xs us)
      (g : G' p = none ∧ G' a = none ∧ G' b = none) (n : H p = none ∧ H a = none ∧ H b = none) (d : a ≠ b ∧ p ≠ a ∧ p ≠ b) : RAt K H G' H' (.t pre es xs) (.ref p)
theorem Bd.mono {K : PySem.W.Frag} {H0 G H G' H' : Hp} (l : Le G H G' H') {b : B} {x : Option V} : Bd K H0 G H b x → Bd K H0 G' H' b x
  | .no => .no
  | .val h => .val (h.mono l.g)
  | .own e x g n => .own (l.h _ _ e) (x.mono l.g) (l.n _ _ e g) n

abbrev Env := List B
structure Sta (K : PySem.W.Frag) (G0 H0 G H : Hp) (σ : List (Option V)) (env : Env) : Prop where
  le : Le G0 H0 G H
  len : σ.length = env.length
  at_ : ∀ (i : Nat) (b : B), env[i]? = some b → ∃ x, σ[i]? = some x ∧ Bd K H0 G H b x
  dj : ∀ (i j : Nat) (l : Addr) (o o' : OO), env[i]? = some (.own o) → env[j]? = some (.own o') → σ[i]? = some (some (.ref l)) → σ[j]? = some (some (.ref l)) → i = j
section
variable {K : PySem.W.Frag} {G0 H0 G H G' H' : Hp} {σ : List (Option V)} {env : Env}
theorem Sta.s (S : Sta K G0 H0 G H σ env) : Same G H := S.le.s
theorem Sta.mono (S : Sta K G0 H0 G H σ env) (l : Le G H G' H') : Sta K G0 H0 G' H' σ env :=
  ⟨S.le.trans l, S.len, fun i b e => by
    obtain ⟨x, e1, q⟩ := S.at_ i b e
    exact ⟨x, e1, q.mono l⟩, S.dj⟩
theorem Sta.val {i : Nat} {d : D} (S : Sta K G0 H0 G H σ env) (e : env[i]? = some (.val d)) : ∃ v, σ[i]? = some (some v) ∧ At K G d v := by
  obtain ⟨x, e1, q⟩ := S.at_ i _ e
  cases q with
  | val h => exact ⟨_, e1, h⟩
theorem Sta.own {i : Nat} {o : OO} (S : Sta K G0 H0 G H σ env) (e : env[i]? = some (.own o)) : ∃ l h, σ[i]? = some (some (.ref l)) ∧ H l = some h ∧ HOat K G l o h ∧ G l = none ∧ H0 l = none := by
  obtain ⟨x, e1, q⟩ := S.at_ i _ e
  cases q with
  | own a b c d => exact ⟨_, _, e1, a, b, c, d⟩
/-- a slot is stored -/
theorem Sta.set {r : R} {v : V} {i : Nat} (S : Sta K G0 H0 G H σ env) (l : Le G H G' H') (a : RAt K H G' H' r v) : Sta K G0 H0 G' H' (σ.set i (some v)) (env.set i (.of r)) := by
  have S' := S.mono l
  refine ⟨S'.le, by rw [List.length_set, List.length_set]; exact S.len, fun j b e => ?_, fun j k p o o' e1 e2 e3 e4 => ?_⟩
  · by_cases hj : i = j
    · subst hj
      by_cases hl : i < env.length
      · rw [List.getElem?_set_self hl] at e
        rw [List.getElem?_set_self (by rw [S.len]; exact hl)]
        cases e
        refine ⟨_, rfl, ?_⟩
        cases a with
        | v h => exact .val h
        | n e x g n => exact .own e x g (by
            cases q : H0 _ with
            | none => rfl
            | some u => rw [S.le.h _ _ q] at n; cases n)
        | t => exact .no
      · rw [List.getElem?_eq_none (by rw [List.length_set]; omega)] at e
        cases e
    · rw [List.getElem?_set_ne hj] at e ⊢
      exact S'.at_ j b e
  · have key : ∀ (k : Nat) (o o' : OO), (env.set i (B.of r))[i]? = some (.own o) → (env.set i (B.of r))[k]? = some (.own o') → i ≠ k → (σ.set i (some v))[i]? = some (some (.ref p)) → (σ.set i (some v))[k]? = some (some (.ref p)) → False := by
      intro k o o' e1 e2 hk e3 e4
      rw [List.getElem?_set_ne hk] at e2 e4
      obtain ⟨q, h, f1, f2, _, _, _⟩ := S.own e2
      have z2 : V.ref q = V.ref p := Option.some.inj (Option.some.inj (f1.symm.trans e4))
      have hl : i < env.length := by
        rcases Nat.lt_or_ge i env.length with c | c
        · exact c
        · rw [List.getElem?_eq_none (by rw [List.length_set]; exact c)] at e1
          cases e1
      rw [List.getElem?_set_self hl] at e1
      rw [List.getElem?_set_self (by rw [S.len]; exact hl)] at e3
      have z1 : v = V.ref p := Option.some.inj (Option.some.inj e3)
      cases z2
      cases a with
      | v h => cases e1
      | n e x g n =>
        cases z1
        rw [f2] at n
        cases n
      | t => cases e1
    by_cases hj : i = j
    · subst hj
      by_cases hk : i = k
      · exact hk
      · exact (key k o o' e1 e2 hk e3 e4).elim
    · by_cases hk : i = k
      · subst hk
        exact (key j o' o e2 e1 hj e4 e3).elim
      · rw [List.getElem?_set_ne hj] at e1 e3
        rw [List.getElem?_set_ne hk] at e2 e4
        exact S.dj j k p o o' e1 e2 e3 e4
end
end Pd




namespace Pd
open PySem L2
section
variable {K : PySem.W.Frag}
theorem RAt.d {H G' H' : Hp} {r : R} {u : V} {G : Hp} (l : Le G H G' H') (a : RAt K H G' H' r u) : ∃ G2, Le G H G2 H' ∧ At K G2 r.d u := by
  cases a with
  | v h => exact ⟨G', l, h⟩
  | n e x g n => exact ⟨_, l.close n g e, x.close g⟩
  | t e lp ea la eb lb g n dd =>
    rename_i pre es xs p a b vs ws us
    obtain ⟨g1, g2, g3⟩ := g
    obtain ⟨n1, n2, n3⟩ := n
    obtain ⟨d1, d2, d3⟩ := dd
    have ga : (upd G' a (.lst ws)) b = none := by rw [upd_ne (fun z => d1 z.symm)]; exact g3
    have gp : (upd (upd G' a (.lst ws)) b (.lst us)) p = none := by rw [upd_ne d3, upd_ne d2]; exact g1
    have s1 : Same G' (upd G' a (.lst ws)) := same_upd g2
    have s2 : Same (upd G' a (.lst ws)) (upd (upd G' a (.lst ws)) b (.lst us)) := same_upd ga
    have s3 : Same (upd (upd G' a (.lst ws)) b (.lst us)) (upd (upd (upd G' a (.lst ws)) b (.lst us)) p (.tup (vs ++ [.ref a, .ref b]))) := same_upd gp
    refine ⟨_, ((l.close n2 g2 ea).close n3 ga eb).close n1 gp e, .tup (.inl (.inl upd_same)) ((((lp.mono s1).mono s2).mono s3).app (.cons (.lst (s3 _ _ (s2 _ _ upd_same)) (((la.mono s1).mono s2).mono s3)) (.cons (.lst (s3 _ _ upd_same) (((lb.mono s1).mono s2).mono s3)) .nil)))⟩
theorem RAt.back {H H1 G' H' : Hp} {r : R} {u : V} (l : Same H H1) (a : RAt K H1 G' H' r u) : RAt K H G' H' r u := by
  cases a with
  | v h => exact .v h
  | n e x g n => exact .n e x g (l.free n)
  | t e lp ea la eb lb g n dd => exact .t e lp ea la eb lb g ⟨l.free n.1, l.free n.2.1, l.free n.2.2⟩ dd

def Ev (K : PySem.W.Frag) (te : TE) (env : Env) (r : R) : Prop := ∀ (G0 H0 G H : Hp) (σ : L2.St), Sta K G0 H0 G H σ env → ∀ Q : VK, (∀ u G' H', Le G H G' H' → RAt K H G' H' r u → Q u H') → te σ H Q
abbrev EvD (K : PySem.W.Frag) (te : TE) (env : Env) (d : D) : Prop := Ev K te env (.v d)
def EvB (K : PySem.W.Frag) (tt : TT) (env : Env) (b : Bool) : Prop := ∀ (G0 H0 G H : Hp) (σ : L2.St), Sta K G0 H0 G H σ env → ∀ Q : Bool → Hp → Prop, (∀ G' H', Le G H G' H' → Q b H') → tt σ H Q
def EvA (K : PySem.W.Frag) (ta : TA) (env : Env) (ds : List D) : Prop := ∀ (G0 H0 G H : Hp) (σ : L2.St), Sta K G0 H0 G H σ env → ∀ Q : List V → Hp → Prop, (∀ vs G' H', Le G H G' H' → AtL K G' ds vs → Q vs H') → ta σ H Q
def EvO (K : PySem.W.Frag) (to : TO) (env : Env) (o : Option Int) : Prop := ∀ (G0 H0 G H : Hp) (σ : L2.St), Sta K G0 H0 G H σ env → ∀ Q : Option Int → Hp → Prop, (∀ G' H', Le G H G' H' → Q o H') → to σ H Q
def Op2 (K : PySem.W.Frag) (r : R2) (x y : D) (z : R) : Prop := ∀ (G H : Hp) (v w : V), Same G H → At K G x v → At K G y w → ∀ Q : VK, (∀ u G' H', Le G H G' H' → RAt K H G' H' z u → Q u H') → r v w H Q
def Op1 (K : PySem.W.Frag) (r : V → Hp → VK → Prop) (x : D) (z : R) : Prop := ∀ (G H : Hp) (v : V), Same G H → At K G x v → ∀ Q : VK, (∀ u G' H', Le G H G' H' → RAt K H G' H' z u → Q u H') → r v H Q
def OpC (K : PySem.W.Frag) (r : List V → Hp → VK → Prop) (ds : List D) (z : R) : Prop := ∀ (G H : Hp) (vs : List V), Same G H → AtL K G ds vs → ∀ Q : VK, (∀ u G' H', Le G H G' H' → RAt K H G' H' z u → Q u H') → r vs H Q

variable {env : Env} {ta tb tc te : TE} {t u : TT} {x y z : D} {r : R2}
theorem Ev.d {r : R} (h : Ev K te env r) : EvD K te env r.d := fun G0 H0 G H σ S Q q => h G0 H0 G H σ S Q fun u G' H' l a => by
  obtain ⟨G2, l2, a2⟩ := a.d l
  exact q u G2 H' l2 (.v a2)
theorem Ev.is {r r' : R} (h : Ev K te env r) (e : r = r') : Ev K te env r' := e ▸ h
theorem EvB.is {b b' : Bool} (h : EvB K t env b) (e : b = b') : EvB K t env b' := e ▸ h
theorem Ev.v {G0 H0 G H : Hp} {σ : L2.St} {d : D} (h : EvD K te env d) (S : Sta K G0 H0 G H σ env) {Q : VK} (q : ∀ u G' H', Le G H G' H' → At K G' d u → Q u H') : te σ H Q := h G0 H0 G H σ S Q fun u G' H' l a => by
  cases a with
  | v a => exact q u G' H' l a
theorem ev_var {i : Nat} {d : D} (e : env[i]? = some (.val d)) : EvD K (tVar i) env d := fun G0 H0 G H σ S Q q => by
  obtain ⟨v, h1, h2⟩ := S.val e
  exact ⟨v, h1, q v G H (.refl S.s) (.v h2)⟩
theorem ev_int {i : Int} : EvD K (tC (.int i)) env (.int i) := fun G0 H0 G H σ S Q q => q _ G H (.refl S.s) (.v .int)
theorem ev_bl {b : Bool} : EvD K (tC (.bl b)) env (.bl b) := fun G0 H0 G H σ S Q q => q _ G H (.refl S.s) (.v .bl)
theorem ev_str {s : Str} : EvD K (tC (.str s)) env (.str s) := fun G0 H0 G H σ S Q q => q _ G H (.refl S.s) (.v .str)
theorem ev_non : EvD K (tC .non) env .non := fun G0 H0 G H σ S Q q => q _ G H (.refl S.s) (.v .non)
theorem ev_ty {n : String} : EvD K (tC (.ty n)) env (.ty n) := fun G0 H0 G H σ S Q q => q _ G H (.refl S.s) (.v .ty)
theorem ev_cls {C : Addr} : EvD K (tC (.ref C)) env (.cls C) := fun G0 H0 G H σ S Q q => q _ G H (.refl S.s) (.v .cls)
theorem ev_op {z : R} (ha : EvD K ta env x) (hb : EvD K tb env y) (hr : Op2 K r x y z) : Ev K (tOp r ta tb) env z := fun G0 H0 G H σ S Q q =>
  ha.v S fun v G1 H1 l1 a1 => hb.v (S.mono l1) fun w G2 H2 l2 a2 => hr G2 H2 v w l2.s (a1.mono l2.g) a2 Q fun u G3 H3 l3 a3 => q u G3 H3 ((l1.trans l2).trans l3) (a3.back (l1.trans l2).h)
theorem ev_un {r : V → Hp → VK → Prop} {z : R} (ha : EvD K ta env x) (hr : Op1 K r x z) : Ev K (tUn r ta) env z := fun G0 H0 G H σ S Q q =>
  ha.v S fun v G1 H1 l1 a1 => hr G1 H1 v l1.s a1 Q fun u G3 H3 l3 a3 => q u G3 H3 (l1.trans l3) (a3.back l1.h)
theorem ea_nil : EvA K tNil env [] := fun G0 H0 G H σ S Q q => q _ G H (.refl S.s) .nil
theorem ea_cons {tr : TA} {ds : List D} (h : EvD K te env x) (hr : EvA K tr env ds) : EvA K (tCons te tr) env (x :: ds) := fun G0 H0 G H σ S Q q =>
  h.v S fun v G1 H1 l1 a1 => hr G0 H0 G1 H1 σ (S.mono l1) _ fun vs G2 H2 l2 a2 => q _ G2 H2 (l1.trans l2) (.cons (a1.mono l2.g) a2)
theorem ev_tup {ta : TA} {ds : List D} (h : EvA K ta env ds) (hl : ds.length ≤ 100000) : EvD K (tTup ta) env (.tup ds) := fun G0 H0 G H σ S Q q =>
  h G0 H0 G H σ S _ fun vs G1 H1 l1 a1 => ⟨by rw [a1.length]; exact Nat.le_trans hl (by decide), fun p hp => q _ _ _ (l1.trans (.new l1.s hp)) (.v (.tup (.inl (.inl upd_same)) (a1.mono (same_upd (l1.s.free hp)))))⟩
theorem ev_lst {ta : TA} {ds : List D} (h : EvA K ta env ds) (hl : ds.length ≤ 100000) : Ev K (tLst ta) env (.n (.lst ds)) := fun G0 H0 G H σ S Q q =>
  h G0 H0 G H σ S _ fun vs G1 H1 l1 a1 => ⟨by rw [a1.length]; exact Nat.le_trans hl (by decide), fun p hp => q _ _ _ (l1.trans (.newH l1.s hp)) (.n upd_same (.lst a1) (l1.s.free hp) (l1.h.free hp))⟩
theorem ev_cb {rr : List V → Hp → VK → Prop} {ta : TA} {ds : List D} {z : R} (h : EvA K ta env ds) (hr : OpC K rr ds z) : Ev K (tCB rr ta) env z := fun G0 H0 G H σ S Q q =>
  h G0 H0 G H σ S _ fun vs G1 H1 l1 a1 => hr G1 H1 vs l1.s a1 Q fun u G3 H3 l3 a3 => q u G3 H3 (l1.trans l3) (a3.back l1.h)
theorem ev_fld {C : Addr} {fs : List (Str × D)} {f : Str} {d : D} (h : EvD K ta env (.ins C fs)) (c : Cls K C) (n : NoAttr K C f) (e : fs.lookup f = some d) : EvD K (tFld K ta f) env d := fun G0 H0 G H σ S Q q =>
  h.v S fun v G1 H1 l1 a1 => by
    cases a1 with
    | ins h1 h2 =>
      obtain ⟨w, e1, e2⟩ := h2.lookup e
      exact ⟨_, C, _, _, w, rfl, l1.s _ _ h1, c, n, e1, q w G1 H1 l1 (.v e2)⟩
/-- a field of what one owns -/
theorem ev_fldO {x C : Addr} {fs : List (Str × D)} {f : Str} {d : D} {i : Nat} (h : env[i]? = some (.own (.ins x C fs))) (c : Cls K C) (n : NoAttr K C f) (e : fs.lookup f = some d) : EvD K (tFld K (tVar i) f) env d := fun G0 H0 G H σ S Q q => by
  obtain ⟨l, o, h1, h2, h3, h4, h5⟩ := S.own h
  cases h3 with
  | ins h3 =>
    obtain ⟨w, e1, e2⟩ := h3.lookup e
    exact ⟨_, h1, x, C, _, _, w, rfl, h2, c, n, e1, q w G H (.refl S.s) (.v e2)⟩
theorem eb_test {b : Bool} (h : EvD K te env (.bl b)) : EvB K (tTest te) env b := fun G0 H0 G H σ S Q q => h.v S fun v G1 H1 l1 a1 => by
  cases a1
  exact ⟨b, rfl, q G1 H1 l1⟩
theorem eb_b {b : Bool} (h : EvD K te env (.bl b)) : EvB K (tB te) env b := fun G0 H0 G H σ S Q q => h.v S fun v G1 H1 l1 a1 => by
  cases a1
  exact ⟨b, rfl, q G1 H1 l1⟩
theorem eb_and {a b : Bool} (h1 : EvB K t env a) (h2 : a = true → EvB K u env b) : EvB K (tAnd t u) env (a && b) := fun G0 H0 G H σ S Q q => h1 G0 H0 G H σ S _ fun G1 H1 l1 => by
  cases a with
  | true => exact iteT (h2 rfl G0 H0 G1 H1 σ (S.mono l1) Q fun G2 H2 l2 => q G2 H2 (l1.trans l2))
  | false => exact iteF (q G1 H1 l1)
theorem eb_or {a b : Bool} (h1 : EvB K t env a) (h2 : a = false → EvB K u env b) : EvB K (tOr t u) env (a || b) := fun G0 H0 G H σ S Q q => h1 G0 H0 G H σ S _ fun G1 H1 l1 => by
  cases a with
  | true => exact iteT (q G1 H1 l1)
  | false => exact iteF (h2 rfl G0 H0 G1 H1 σ (S.mono l1) Q fun G2 H2 l2 => q G2 H2 (l1.trans l2))
theorem eb_not {a : Bool} (h1 : EvB K t env a) : EvB K (tNot t) env (!a) := fun G0 H0 G H σ S Q q => h1 G0 H0 G H σ S _ q
theorem ev_andV {a b : Bool} (h1 : EvD K ta env (.bl a)) (h2 : a = true → EvD K tb env (.bl b)) : EvD K (tAndV ta tb) env (.bl (a && b)) := fun G0 H0 G H σ S Q q => h1.v S fun v G1 H1 l1 a1 => by
  cases a1
  refine ⟨a, rfl, ?_⟩
  cases a with
  | true => exact iteT ((h2 rfl).v (S.mono l1) fun w G2 H2 l2 a2 => q w G2 H2 (l1.trans l2) (.v a2))
  | false => exact iteF (q _ G1 H1 l1 (.v .bl))
theorem ev_orV {a b : Bool} (h1 : EvD K ta env (.bl a)) (h2 : a = false → EvD K tb env (.bl b)) : EvD K (tOrV ta tb) env (.bl (a || b)) := fun G0 H0 G H σ S Q q => h1.v S fun v G1 H1 l1 a1 => by
  cases a1
  refine ⟨a, rfl, ?_⟩
  cases a with
  | true => exact iteT (q _ G1 H1 l1 (.v .bl))
  | false => exact iteF ((h2 rfl).v (S.mono l1) fun w G2 H2 l2 a2 => q w G2 H2 (l1.trans l2) (.v a2))
theorem ev_notV {a : Bool} (h1 : EvD K ta env (.bl a)) : EvD K (tNotV ta) env (.bl (!a)) := fun G0 H0 G H σ S Q q => h1.v S fun v G1 H1 l1 a1 => by
  cases a1
  exact ⟨a, rfl, q _ G1 H1 l1 (.v .bl)⟩
theorem ev_if {b : Bool} {rr : R} (h : EvB K t env b) (h1 : b = true → Ev K ta env rr) (h2 : b = false → Ev K tb env rr) : Ev K (tIf t ta tb) env rr := fun G0 H0 G H σ S Q q => h G0 H0 G H σ S _ fun G1 H1 l1 => by
  cases b with
  | true => exact iteT (h1 rfl G0 H0 G1 H1 σ (S.mono l1) Q fun w G2 H2 l2 a2 => q w G2 H2 (l1.trans l2) (a2.back l1.h))
  | false => exact iteF (h2 rfl G0 H0 G1 H1 σ (S.mono l1) Q fun w G2 H2 l2 a2 => q w G2 H2 (l1.trans l2) (a2.back l1.h))
theorem ev_chain {r' : R2} {a b : Bool} {w : D} (ha : EvD K ta env x) (hb : EvD K tb env y) (hr : Op2 K r x y (.v (.bl a))) (hc : a = true → EvD K tc env w) (hr' : a = true → Op2 K r' y w (.v (.bl b))) :
    EvD K (tChain r r' ta tb tc) env (.bl (a && b)) := fun G0 H0 G H σ S Q q =>
  ha.v S fun v1 G1 H1 l1 a1 => hb.v (S.mono l1) fun v2 G2 H2 l2 a2 => hr G2 H2 v1 v2 l2.s (a1.mono l2.g) a2 _ fun k G3 H3 l3 a3 => by
    have l13 := (l1.trans l2).trans l3
    cases a3 with
    | v a3 =>
      cases a3
      refine ⟨a, rfl, ?_⟩
      cases a with
      | true => exact iteT ((hc rfl).v (S.mono l13) fun v4 G4 H4 l4 a4 => hr' rfl G4 H4 v2 v4 l4.s ((a2.mono l3.g).mono l4.g) a4 Q fun u G5 H5 l5 a5 => q u G5 H5 ((l13.trans l4).trans l5) (a5.back (l13.trans l4).h))
      | false => exact iteF (q _ G3 H3 l13 (.v .bl))
theorem eo_none : EvO K tNoPart env none := fun G0 H0 G H σ S Q q => q G H (.refl S.s)
theorem eo_some {i : Int} (h : EvD K te env (.int i)) : EvO K (tPart te) env (some i) := fun G0 H0 G H σ S Q q => h.v S fun v G1 H1 l1 a1 => by
  cases a1
  exact ⟨i, rfl, q G1 H1 l1⟩

theorem o_i {f : Int → Int → Int} {i j : Int} : Op2 K (rI0 fun i j => .int (f i j)) (.int i) (.int j) (.v (.int (f i j))) := fun G H v w s a b Q q => by
  cases a; cases b
  exact ⟨i, j, rfl, rfl, q _ G H (.refl s) (.v .int)⟩
theorem o_b {f : Int → Int → Bool} {i j : Int} : Op2 K (rI0 fun i j => .bl (f i j)) (.int i) (.int j) (.v (.bl (f i j))) := fun G H v w s a b Q q => by
  cases a; cases b
  exact ⟨i, j, rfl, rfl, q _ G H (.refl s) (.v .bl)⟩
theorem o_ic {C : Int → Int → Prop} {f : Int → Int → Int} {i j : Int} (hc : C i j) : Op2 K (rI C fun i j => .int (f i j)) (.int i) (.int j) (.v (.int (f i j))) := fun G H v w s a b Q q => by
  cases a; cases b
  exact ⟨i, j, rfl, rfl, hc, q _ G H (.refl s) (.v .int)⟩
theorem o_neg {i : Int} : Op1 K (rU fun i => .int (-i)) (.int i) (.v (.int (-i))) := fun G H v s a Q q => by
  cases a
  exact ⟨i, rfl, q _ G H (.refl s) (.v .int)⟩
theorem o_eqI {i j : Int} : Op2 K rEq (.int i) (.int j) (.v (.bl (decide (i = j)))) := fun G H v w s a b Q q => by
  cases a; cases b
  refine ⟨rfl, ?_⟩
  have e : decide (V.int i = V.int j) = decide (i = j) := by simp
  rw [e]
  exact q _ G H (.refl s) (.v .bl)
theorem o_neI {i j : Int} : Op2 K rNe (.int i) (.int j) (.v (.bl (!decide (i = j)))) := fun G H v w s a b Q q => by
  cases a; cases b
  refine ⟨rfl, ?_⟩
  have e : decide (V.int i = V.int j) = decide (i = j) := by simp
  rw [e]
  exact q _ G H (.refl s) (.v .bl)
theorem o_eqB {i j : Bool} : Op2 K rEq (.bl i) (.bl j) (.v (.bl (i == j))) := fun G H v w s a b Q q => by
  cases a; cases b
  refine ⟨rfl, ?_⟩
  have e : decide (V.bl i = V.bl j) = (i == j) := by cases i <;> cases j <;> rfl
  rw [e]
  exact q _ G H (.refl s) (.v .bl)
theorem o_neB {i j : Bool} : Op2 K rNe (.bl i) (.bl j) (.v (.bl (i != j))) := fun G H v w s a b Q q => by
  cases a; cases b
  refine ⟨rfl, ?_⟩
  have e : (!decide (V.bl i = V.bl j)) = (i != j) := by cases i <;> cases j <;> rfl
  rw [e]
  exact q _ G H (.refl s) (.v .bl)
theorem o_ixL {d0 : D} {ds : List D} {i : Int} {d : D} (e : atI ds i = some d) (q0 : isSeq d0 ds := by rfl) : Op2 K (rIxL K) d0 (.int i) (.v d) := fun G H v w s a b Q q => by
  cases b
  obtain ⟨p, vs, rfl, h, l⟩ := a.seqL q0
  obtain ⟨j, e1, e2⟩ : ∃ j, ixN ds.length i = some j ∧ ds[j]? = some d := by
    unfold atI at e
    cases z : ixN ds.length i with
    | none => rw [z] at e; cases e
    | some j => rw [z] at e; exact ⟨j, rfl, e⟩
  obtain ⟨v, f1, f2⟩ := l.at_ e2
  exact ⟨_, _, i, v, rfl, rfl, s.seq h, by unfold atI; rw [l.length, e1]; exact f1, q v G H (.refl s) (.v f2)⟩
theorem o_ixT {ds : List D} {i : Int} {d : D} (e : atI ds i = some d) : Op2 K (rIxT K) (.tup ds) (.int i) (.v d) := fun G H v w s a b Q q => by
  cases b
  cases a with
  | tup h l =>
    obtain ⟨j, e1, e2⟩ : ∃ j, ixN ds.length i = some j ∧ ds[j]? = some d := by
      unfold atI at e
      cases z : ixN ds.length i with
      | none => rw [z] at e; cases e
      | some j => rw [z] at e; exact ⟨j, rfl, e⟩
    obtain ⟨v, f1, f2⟩ := l.at_ e2
    exact ⟨_, _, i, v, rfl, rfl, same_t s h, by unfold atI; rw [l.length, e1]; exact f1, q v G H (.refl s) (.v f2)⟩
theorem o_inI {neg : Bool} {ns : List Int} {i : Int} {ds : List D} (hd : ds = ns.map D.int) {x : D} (hx : x = .tup ds ∨ x = .lst ds) : Op2 K (rIn K neg) (.int i) x (.v (.bl (if neg then !decide (i ∈ ns) else decide (i ∈ ns)))) := fun G H v w s a b Q q => by
  cases a
  have key : ∀ vs : List V, vs = ns.map V.int → flatV (.int i) = true ∧ vs.all flatV = true ∧ inV (.int i) vs = decide (i ∈ ns) := by
    intro vs e
    subst e
    refine ⟨rfl, List.all_eq_true.mpr fun v hv => ?_, ?_⟩
    · obtain ⟨n, _, e⟩ := List.mem_map.mp hv
      subst e
      rfl
    · unfold inV
      rw [List.any_map]
      by_cases h : i ∈ ns
      · rw [decide_eq_true h]
        exact List.any_eq_true.mpr ⟨i, h, by simp [eqV]⟩
      · rw [decide_eq_false h]
        refine List.any_eq_false.mpr fun n hn => ?_
        have : n ≠ i := fun e => h (e ▸ hn)
        simp [eqV, this]
  rcases hx with rfl | rfl
  · cases b with
    | tup h l =>
      rw [hd] at l
      obtain ⟨k1, k2, k3⟩ := key _ l.ints
      exact ⟨_, _, rfl, .inr (same_t s h), k1, k2, by rw [k3]; exact q _ G H (.refl s) (.v .bl)⟩
  · cases b with
    | lst h l =>
      rw [hd] at l
      obtain ⟨k1, k2, k3⟩ := key _ l.ints
      exact ⟨_, _, rfl, .inl (.inl (.inl (s _ _ h))), k1, k2, by rw [k3]; exact q _ G H (.refl s) (.v .bl)⟩
def D.isN : D → Bool
  | .non => true
  | _ => false
theorem At.isN {G : Hp} {d : D} {v : V} (a : At K G d v) : decide (v = .non) = d.isN := by cases a <;> rfl
theorem o_isN {d : D} : Op2 K (fun x y H Q => y = .non ∧ Q (.bl (decide (x = .non))) H) d .non (.v (.bl d.isN)) := fun G H v w s a b Q q => by
  cases b
  refine ⟨rfl, ?_⟩
  rw [a.isN]
  exact q _ G H (.refl s) (.v .bl)
theorem o_notN {d : D} : Op2 K (fun x y H Q => y = .non ∧ Q (.bl (!decide (x = .non))) H) d .non (.v (.bl (!d.isN))) := fun G H v w s a b Q q => by
  cases b
  refine ⟨rfl, ?_⟩
  rw [a.isN]
  exact q _ G H (.refl s) (.v .bl)
theorem o_catT {ds es : List D} (hl : ds.length + es.length ≤ 100000) : Op2 K (rCatA K) (.tup ds) (.tup es) (.v (.tup (ds ++ es))) := fun G H v w s a b Q q => by
  cases a with
  | tup h l => cases b with
    | tup h' l' =>
      refine ⟨_, _, _, _, rfl, rfl, same_t s h, same_t s h', by rw [l.length, l'.length]; exact Nat.le_trans hl (by decide), fun e => ?_, fun e e' => ?_, fun e e' p hp => ?_⟩
      · subst e
        cases l
        exact q _ G H (.refl s) (.v (.tup h' l'))
      · subst e'
        cases l'
        rw [List.append_nil] at q
        exact q _ G H (.refl s) (.v (.tup h l))
      · exact q _ _ _ (.new s hp) (.v (.tup (.inl (.inl upd_same)) ((l.app l').mono (same_upd (s.free hp)))))
end
end Pd

namespace Pd
open PySem L2
section
variable {K : PySem.W.Frag} {G0 H0 G1 H1 G H G' H' : Hp} {σ : List (Option V)} {env : Env}
theorem Sta.rebase (S : Sta K G0 H0 G H σ env) : Sta K G H0 G H σ env := ⟨⟨Same.refl _, S.le.h, S.le.s, fun _ _ _ h => h⟩, S.len, S.at_, S.dj⟩
theorem Le.unbase (a : Le G0 H0 G1 H1) (b : Le G1 H0 G H) : Le G0 H0 G H := ⟨a.g.trans b.g, b.h, b.s, fun x o h1 h2 => b.n x o h1 (a.n x o h1 h2)⟩
theorem Sta.unbase (a : Le G0 H0 G1 H1) (S : Sta K G1 H0 G H σ env) : Sta K G0 H0 G H σ env := ⟨a.unbase S.le, S.len, S.at_, S.dj⟩
theorem Sta.lt {i : Nat} {b : B} (S : Sta K G0 H0 G H σ env) (e : env[i]? = some b) : i < env.length := by
  rcases Nat.lt_or_ge i env.length with c | c
  · exact c
  · rw [List.getElem?_eq_none c] at e
    cases e
/-- an own thing is changed -/
theorem Sta.mut {i : Nat} {o o' : OO} {l : Addr} {h' : HO} (S : Sta K G0 H0 G H σ env) (e : env[i]? = some (.own o)) (e2 : σ[i]? = some (some (.ref l))) (x : HOat K G l o' h') : Sta K G0 H0 G (upd H l h') σ (env.set i (.own o')) := by
  obtain ⟨l', q, f1, f2, f3, f4, f5⟩ := S.own e
  have z : V.ref l' = V.ref l := Option.some.inj (Option.some.inj (f1.symm.trans e2))
  cases z
  have hl := S.lt e
  refine ⟨S.le.mut f5 f4, by rw [List.length_set]; exact S.len, fun j b eb => ?_, fun j k p u u' e3 e4 e5 e6 => ?_⟩
  · by_cases hj : i = j
    · subst hj
      rw [List.getElem?_set_self hl] at eb
      cases eb
      exact ⟨_, e2, .own upd_same x f4 f5⟩
    · rw [List.getElem?_set_ne hj] at eb
      obtain ⟨x1, g1, g2⟩ := S.at_ j b eb
      refine ⟨x1, g1, ?_⟩
      cases g2 with
      | no => exact .no
      | val h => exact .val h
      | own a1 a2 a3 a4 =>
        exact .own (by rw [upd_ne (fun z => hj (S.dj i j _ _ _ e eb e2 (by rw [← z]; exact g1)))]; exact a1) a2 a3 a4
  · have back : ∀ {j : Nat} {u : OO}, (env.set i (B.own o'))[j]? = some (.own u) → ∃ w, env[j]? = some (.own w) := by
      intro j u e3
      by_cases hj : i = j
      · subst hj
        exact ⟨o, e⟩
      · rw [List.getElem?_set_ne hj] at e3
        exact ⟨u, e3⟩
    obtain ⟨w1, g1⟩ := back e3
    obtain ⟨w2, g2⟩ := back e4
    exact S.dj j k p w1 w2 g1 g2 e5 e6
/-- an own thing is settled -/
theorem Sta.fixAt {i : Nat} {o : OO} {l : Addr} {q : HO} (S : Sta K G0 H0 G H σ env) (e : env[i]? = some (.own o)) (f1 : σ[i]? = some (some (.ref l))) (f2 : H l = some q) : Sta K G0 H0 (upd G l q) H σ (env.set i (.val o.d)) := by
  obtain ⟨l', q', f1', f2', f3, f4, f5⟩ := S.own e
  have z : V.ref l' = V.ref l := Option.some.inj (Option.some.inj (f1'.symm.trans f1))
  cases z
  have z2 : q' = q := Option.some.inj (f2'.symm.trans f2)
  subst z2
  have hl := S.lt e
  have ex : Same G (upd G l q') := same_upd f4
  refine ⟨S.le.close f5 f4 f2, by rw [List.length_set]; exact S.len, fun j b eb => ?_, fun j k p u u' e3 e4 e5 e6 => ?_⟩
  · by_cases hj : i = j
    · subst hj
      rw [List.getElem?_set_self hl] at eb
      cases eb
      exact ⟨_, f1, .val (f3.close f4)⟩
    · rw [List.getElem?_set_ne hj] at eb
      obtain ⟨x1, g1, g2⟩ := S.at_ j b eb
      refine ⟨x1, g1, ?_⟩
      cases g2 with
      | no => exact .no
      | val h => exact .val (h.mono ex)
      | own a1 a2 a3 a4 =>
        exact .own a1 (a2.mono ex) (by rw [upd_ne (fun z => hj (S.dj i j _ _ _ e eb f1 (by rw [← z]; exact g1)))]; exact a3) a4
  · have back : ∀ {j : Nat} {u : OO}, (env.set i (B.val o.d))[j]? = some (.own u) → env[j]? = some (.own u) := by
      intro j u e3
      by_cases hj : i = j
      · subst hj
        rw [List.getElem?_set_self hl] at e3
        cases e3
      · rw [List.getElem?_set_ne hj] at e3
        exact e3
    exact S.dj j k p u u' (back e3) (back e4) e5 e6
theorem Sta.fix {i : Nat} {o : OO} (S : Sta K G0 H0 G H σ env) (e : env[i]? = some (.own o)) : ∃ G', Same G G' ∧ Sta K G0 H0 G' H σ (env.set i (.val o.d)) := by
  obtain ⟨l, q, f1, f2, f3, f4, f5⟩ := S.own e
  exact ⟨upd G l q, same_upd f4, S.fixAt e f1 f2⟩
/-- e' tells nothing that e does not -/
def Wk (e e' : Env) : Prop := e.length = e'.length ∧ ∀ (i : Nat) (b : B), e'[i]? = some b → b = .no ∨ e[i]? = some b
theorem Wk.refl (e : Env) : Wk e e := ⟨rfl, fun _ _ h => .inr h⟩
theorem Sta.wk {env' : Env} (S : Sta K G0 H0 G H σ env) (w : Wk env env') : Sta K G0 H0 G H σ env' := by
  refine ⟨S.le, S.len.trans w.1, fun i b e => ?_, fun i j l o o' e1 e2 => ?_⟩
  · rcases w.2 i b e with h | h
    · subst h
      have hi : i < σ.length := by
        rw [S.len, w.1]
        rcases Nat.lt_or_ge i env'.length with c | c
        · exact c
        · rw [List.getElem?_eq_none c] at e
          cases e
      exact ⟨σ[i], List.getElem?_eq_getElem hi, .no⟩
    · exact S.at_ i b h
  · have f1 : env[i]? = some (.own o) := (w.2 i _ e1).resolve_left (fun z => nomatch z)
    have f2 : env[j]? = some (.own o') := (w.2 j _ e2).resolve_left (fun z => nomatch z)
    exact S.dj i j l o o' f1 f2
end

inductive Out where
  | nx (e : Env) | rt (r : R) | bk (e : Env) | ct (e : Env) | rs (C : Addr)
def Fin (K : PySem.W.Frag) (G0 H0 : Hp) (Dn : Ends) (E : XK) : Out → Prop
  | .nx e => ∀ G H σ, Sta K G0 H0 G H σ e → Dn.nx σ H
  | .bk e => ∀ G H σ, Sta K G0 H0 G H σ e → Dn.bk σ H
  | .ct e => ∀ G H σ, Sta K G0 H0 G H σ e → Dn.ct σ H
  | .rt r => ∀ u G H, Le G0 H0 G H → RAt K H0 G H r u → Dn.rt u H
  | .rs C => ∀ G H, Le G0 H0 G H → E (.ref C) none H
def Run (K : PySem.W.Frag) (E : XK) (t : TS) (env : Env) (R : Out → Prop) : Prop :=
  ∀ (G0 H0 G H : Hp) (σ : L2.St), Sta K G0 H0 G H σ env → ∀ Dn : Ends, (∀ o, R o → Fin K G0 H0 Dn E o) → t Dn σ H
section
variable {K : PySem.W.Frag} {E : XK} {env : Env} {t u : TS} {te ta tv : TE} {tt : TT} {R : Out → Prop}
theorem Run.post {R' : Out → Prop} (h : Run K E t env R) (w : ∀ o, R o → R' o) : Run K E t env R' := fun G0 H0 G H σ S Dn f => h G0 H0 G H σ S Dn fun o q => f o (w o q)
theorem Run.wk {env' : Env} (w : Wk env env') (h : Run K E t env' R) : Run K E t env R := fun G0 H0 G H σ S Dn f => h G0 H0 G H σ (S.wk w) Dn f
/-- settle first -/
theorem q_fix {i : Nat} {o : OO} (e : env[i]? = some (.own o)) (h : Run K E t (env.set i (.val o.d)) R) : Run K E t env R := fun G0 H0 G H σ S Dn f => by
  obtain ⟨G', s, S'⟩ := S.fix e
  exact h G0 H0 G' H σ S' Dn f
theorem q_seq {R1 : Out → Prop} (h1 : Run K E t env R1) (h2 : ∀ e, R1 (.nx e) → Run K E u e R) (h3 : ∀ o, R1 o → (∀ e, o ≠ .nx e) → R o) : Run K E (tSeq t u) env R := fun G0 H0 G H σ S Dn f => by
  refine h1 G0 H0 G H σ S _ fun o q => ?_
  cases o with
  | nx e => exact fun G' H' σ' S' => h2 e q G0 H0 G' H' σ' S' Dn f
  | rt r => exact f _ (h3 _ q fun _ z => nomatch z)
  | bk e => exact f _ (h3 _ q fun _ z => nomatch z)
  | ct e => exact f _ (h3 _ q fun _ z => nomatch z)
  | rs C => exact f _ (h3 _ q fun _ z => nomatch z)
/-- t goes on, and only so -/
theorem q_then {e : Env} (h1 : Run K E t env (· = .nx e)) (h2 : Run K E u e R) : Run K E (tSeq t u) env R :=
  q_seq h1 (fun _ q => by cases q; exact h2) fun o q n => (n e q).elim
theorem q_nil (h : R (.nx env)) : Run K E tNext env R := fun G0 H0 G H σ S Dn f => f _ h G H σ S
theorem q_bk (h : R (.bk env)) : Run K E tBreak env R := fun G0 H0 G H σ S Dn f => f _ h G H σ S
theorem q_ct (h : R (.ct env)) : Run K E tCont env R := fun G0 H0 G H σ S Dn f => f _ h G H σ S
theorem r_asg {r : Pd.R} {i : Nat} (h : Ev K te env r) (q : R (.nx (env.set i (.of r)))) : Run K E (tAsg te (gName i)) env R := fun G0 H0 G H σ S Dn f =>
  h G0 H0 G H σ S _ fun v G' H' l a => f _ q G' H' _ (S.set l a)
theorem q_asg {r : Pd.R} {i : Nat} (h : Ev K te env r) (k : Run K E u (env.set i (.of r)) R) : Run K E (tSeq (tAsg te (gName i)) u) env R := q_then (r_asg h rfl) k
theorem q_ret {r : Pd.R} (h : Ev K te env r) (q : R (.rt r)) : Run K E (tRet te) env R := fun G0 H0 G H σ S Dn f =>
  h G0 H0 G H σ S _ fun v G' H' l a => f _ q v G' H' (S.le.trans l) (a.back S.le.h)
theorem q_retN (q : R (.rt (.v .non))) : Run K E tRetN env R := fun G0 H0 G H σ S Dn f => f _ q .non G H S.le (.v .non)
/-- what one owns is handed back -/
theorem q_retO {i : Nat} {o : OO} (e : env[i]? = some (.own o)) (q : R (.rt (.n o))) : Run K E (tRet (tVar i)) env R := fun G0 H0 G H σ S Dn f => by
  obtain ⟨l, h, h1, h2, h3, h4, h5⟩ := S.own e
  exact ⟨_, h1, f _ q _ G H S.le (.n h2 h3 h4 h5)⟩
theorem q_if {b : Bool} (h : EvB K tt env b) (h1 : b = true → Run K E t env R) (h2 : b = false → Run K E u env R) : Run K E (tIfS tt t u) env R := fun G0 H0 G H σ S Dn f =>
  h G0 H0 G H σ S _ fun G1 H1 l => by
    cases b with
    | true => exact iteT (h1 rfl G0 H0 G1 H1 σ (S.mono l) Dn f)
    | false => exact iteF (h2 rfl G0 H0 G1 H1 σ (S.mono l) Dn f)
theorem r_drop {r : Pd.R} (h : Ev K te env r) (q : R (.nx env)) : Run K E (tDrop te) env R := fun G0 H0 G H σ S Dn f =>
  h G0 H0 G H σ S _ fun v G' H' l a => f _ q G' H' _ (S.mono l)
/-- xs.append(e), xs one's own -/
theorem r_app {i : Nat} {ds : List D} {d : D} (e : env[i]? = some (.own (.lst ds))) (h : EvD K te env d) (hl : ds.length < 100000) (q : R (.nx (env.set i (.own (.lst (ds ++ [d])))))) :
    Run K E (tDrop (tBM K "list" rAppend (tVar i) (tCons te tNil))) env R := fun G0 H0 G H σ S Dn f => by
  obtain ⟨l, o, h1, h2, h3, h4, h5⟩ := S.own e
  cases h3 with
  | lst a =>
    refine ⟨_, h1, .inl ⟨rfl, _, .inl (.inl h2)⟩, ?_⟩
    refine h.v S fun v G' H' le b => ?_
    refine ⟨l, _, v, rfl, rfl, le.h _ _ h2, by rw [a.length]; exact Nat.lt_of_lt_of_le hl (by decide), ?_⟩
    exact f _ q G' _ σ ((S.mono le).mut e h1 (.lst ((a.mono le.g).app (.cons b .nil))))
/-- xs[j] = e, xs one's own -/
theorem r_put {i : Nat} {ds : List D} {d : D} {ti : TE} {j : Int} {n : Nat} (e : env[i]? = some (.own (.lst ds))) (h : EvD K te env d) (hj : EvD K ti env (.int j)) (hn : ixN ds.length j = some n) (q : R (.nx (env.set i (.own (.lst (ds.set n d)))))) :
    Run K E (tAsg te (gSub (tVar i) ti rSetL)) env R := fun G0 H0 G H σ S Dn f => by
  obtain ⟨l, o, h1, h2, h3, h4, h5⟩ := S.own e
  cases h3 with
  | lst a =>
    refine h.v S fun v G1 H1 l1 b => ?_
    refine ⟨_, h1, ?_⟩
    refine hj.v (S.mono l1) fun w G2 H2 l2 c => ?_
    cases c
    refine ⟨l, _, j, n, rfl, rfl, l2.h _ _ (l1.h _ _ h2), by rw [a.length]; exact hn, ?_⟩
    exact f _ q G2 _ σ (((S.mono l1).mono l2).mut e h1 (.lst (((a.mono l1.g).mono l2.g).set (b.mono l2.g) n)))
theorem AtP.put {G : Hp} {f : Str} {d : D} {v : V} (h : At K G d v) : ∀ {ds : List (Str × D)} {vs : List (Str × V)}, AtP K G ds vs → AtP K G (putD f d ds) (putF f v vs)
  | _, _, .nil => .cons h .nil
  | _, _, .cons (x := x) (d := d1) (v := v1) (ds := ds) (vs := vs) a t => by
    by_cases e : x = f
    · subst e
      show AtP K G (if x = x then (x, d) :: ds else (x, d1) :: putD x d ds) (if x = x then (x, v) :: vs else (x, v1) :: putF x v vs)
      rw [if_pos rfl, if_pos rfl]
      exact .cons h t
    · show AtP K G (if x = f then (x, d) :: ds else (x, d1) :: putD f d ds) (if x = f then (x, v) :: vs else (x, v1) :: putF f v vs)
      rw [if_neg e, if_neg e]
      exact .cons a (AtP.put h t)
/-- self.f = e, self one's own -/
theorem r_fld {i : Nat} {x C : Addr} {fs : List (Str × D)} {f : Str} {d : D} (e : env[i]? = some (.own (.ins x C fs))) (h : EvD K tv env d) (c : Cls K C) (n : NoAttr K C f) (hl : fs.length < 1000) (q : R (.nx (env.set i (.own (.ins x C (putD f d fs)))))) :
    Run K E (sFld K (tVar i) tv f) env R := fun G0 H0 G H σ S Dn fn => by
  obtain ⟨l, o, h1, h2, h3, h4, h5⟩ := S.own e
  cases h3 with
  | ins a =>
    refine h.v S fun v G' H' le b => ?_
    refine ⟨_, h1, x, C, _, _, rfl, le.h _ _ h2, c, n, by rw [a.length]; exact hl, ?_⟩
    exact fn _ q G' _ σ ((S.mono le).mut e h1 (.ins ((a.mono le.g).put b)))

def Tgt (K : PySem.W.Frag) (g : TG) (ts : List Nat) (d : D) (e e2 : Env) : Prop := ∀ (G0 H0 G H : Hp) (σ : L2.St) (v : V), Sta K G0 H0 G H σ e → At K G d v → ∀ Q : L2.St → Hp → Prop,
  (∀ σ', Sta K G0 H0 G H σ' e2 → (∀ vs : List Nat, (∀ t ∈ ts, t ∈ vs) → wipe σ' vs = wipe σ vs) → Q σ' H) → g v σ H Q
theorem wipe_set {σ : L2.St} {i : Nat} {x : Option V} : ∀ {vs : List Nat}, i ∈ vs → wipe (σ.set i x) vs = wipe σ vs
  | v :: vs, h => by
    unfold wipe
    by_cases e : i ∈ vs
    · rw [wipe_set e]
    · have e2 : i = v := (List.mem_cons.mp h).resolve_right e
      subst e2
      clear h
      have key : ∀ (vs : List Nat), (wipe (σ.set i x) vs).set i none = (wipe σ vs).set i none := by
        intro vs
        induction vs with
        | nil => show (σ.set i x).set i none = σ.set i none; rw [List.set_set]
        | cons w vs ih =>
          unfold wipe
          by_cases q : w = i
          · subst q
            rw [List.set_set, List.set_set]
            exact ih
          · rw [List.set_comm _ _ q, List.set_comm _ _ q, ih]
      exact key vs
theorem t_name {i : Nat} {d : D} {e : Env} : Tgt K (gName i) [i] d e (e.set i (.val d)) := fun G0 H0 G H σ v S a Q q =>
  q _ (S.set (r := .v d) (.refl S.s) (.v a)) fun vs h => wipe_set (h i (by simp))
inductive Tgts (K : PySem.W.Frag) : TGs → List Nat → List D → Env → Env → Prop
  | nil {e : Env} : Tgts K gNil [] [] e e
  | cons {g : TG} {ts us : List Nat} {d : D} {ds : List D} {e e1 e2 : Env} {gs : TGs} (h : Tgt K g ts d e e1) (t : Tgts K gs us ds e1 e2) : Tgts K (gCons g gs) (ts ++ us) (d :: ds) e e2
theorem tgts_run {gs : TGs} {ts : List Nat} {ds : List D} {e e2 : Env} (h : Tgts K gs ts ds e e2) : ∀ (G0 H0 G H : Hp) (σ : L2.St) (vs : List V), Sta K G0 H0 G H σ e → AtL K G ds vs → ∀ Q : L2.St → Hp → Prop,
    (∀ σ', Sta K G0 H0 G H σ' e2 → (∀ vs : List Nat, (∀ t ∈ ts, t ∈ vs) → wipe σ' vs = wipe σ vs) → Q σ' H) → gs vs σ H Q := by
  induction h with
  | nil =>
    intro G0 H0 G H σ vs S a Q q
    cases a
    exact ⟨rfl, q σ S fun _ _ => rfl⟩
  | cons h t ih =>
    intro G0 H0 G H σ vs S a Q q
    cases a with
    | cons a1 a2 =>
      refine ⟨_, _, rfl, ?_⟩
      refine h G0 H0 G H σ _ S a1 _ fun σ1 S1 w1 => ?_
      refine ih G0 H0 G H σ1 _ S1 a2 Q fun σ2 S2 w2 => q σ2 S2 fun vs hv => ?_
      rw [w2 vs fun t ht => hv t (List.mem_append_right _ ht), w1 vs fun t ht => hv t (List.mem_append_left _ ht)]
theorem t_tup {gs : TGs} {ts : List Nat} {ds : List D} {e e2 : Env} {n : Nat} (h : Tgts K gs ts ds e e2) (hn : ds.length = n) : Tgt K (gTup K n gs) ts (.tup ds) e e2 := fun G0 H0 G H σ v S a Q q => by
  cases a with
  | tup h1 h2 => exact ⟨_, _, rfl, same_t S.s h1, h2.length.trans hn, tgts_run h G0 H0 G H σ _ S h2 Q q⟩
/-- a, b = e -/
theorem r_unp {g : TG} {ts : List Nat} {d : D} {e2 : Env} (h : EvD K te env d) (ht : Tgt K g ts d env e2) (q : R (.nx e2)) : Run K E (tAsg te g) env R := fun G0 H0 G H σ S Dn f =>
  h.v S fun v G' H' l a => ht G0 H0 G' H' σ v (S.mono l) a _ fun σ' S' _ => f _ q G' H' σ' S'

def ItOk (K : PySem.W.Frag) (G1 : Hp) (J : It) (items : List D) : Prop := ∃ (Gp : Hp → Prop) (Y : Nat → Hp → V → Hp → Prop), Walk J items.length Gp Y ∧ (∀ H2, Same G1 H2 → Gp H2) ∧
  ∀ i d G2 H2 x H3, items[i]? = some d → Same G1 G2 → Same G2 H2 → Y i H2 x H3 → ∃ G3, Le G2 H2 G3 H3 ∧ At K G3 d x
def EvI (K : PySem.W.Frag) (wi : TI) (env : Env) (items : List D) : Prop := ∀ (G0 H0 G H : Hp) (σ : L2.St), Sta K G0 H0 G H σ env → ∀ Rr : It → Hp → Prop, (∀ J G' H', Le G H G' H' → ItOk K G' J items → Rr J H') → wi σ H Rr
theorem i_list {d0 : D} {ds : List D} (h : EvD K te env d0) (q0 : isSeq d0 ds := by rfl) : EvI K (iList K te) env ds := fun G0 H0 G H σ S Rr q => h.v S fun v G1 H1 l a => by
    obtain ⟨p, vs, rfl, h1, h2⟩ := a.seqL q0
    refine ⟨_, rfl, ⟨_, l.s.seq h1⟩, q _ G1 H1 l ⟨_, YAt _, by rw [← h2.length]; exact walk_list, fun H2 s => s.seq h1, fun i d G2 H2 x H3 e s1 s2 y => ?_⟩⟩
    obtain ⟨rfl, y⟩ := y
    obtain ⟨w, e1, e2⟩ := h2.at_ e
    rw [e1] at y
    cases y
    exact ⟨G2, .refl s2, e2.mono s1⟩
theorem i_tup {ds : List D} (h : EvD K te env (.tup ds)) : EvI K (iTup K te) env ds := fun G0 H0 G H σ S Rr q => h.v S fun v G1 H1 l a => by
  cases a with
  | tup h1 h2 =>
    refine ⟨_, rfl, ⟨_, same_t l.s h1⟩, q _ G1 H1 l ⟨_, YAt _, by rw [← h2.length]; exact walk_tup, fun H2 s => same_t s h1, fun i d G2 H2 x H3 e s1 s2 y => ?_⟩⟩
    obtain ⟨rfl, y⟩ := y
    obtain ⟨w, e1, e2⟩ := h2.at_ e
    rw [e1] at y
    cases y
    exact ⟨G2, .refl s2, e2.mono s1⟩
/-- lo, lo + 1, .. -/
def rng (lo : Int) (n : Nat) : List Int := (List.range n).map fun (i : Nat) => lo + (i : Int)
theorem rng_length {lo : Int} {n : Nat} : (rng lo n).length = n := by unfold rng; rw [List.length_map, List.length_range]
theorem rng_at {lo : Int} {n i : Nat} (h : i < n) : (rng lo n)[i]? = some (lo + (i : Int)) := by
  unfold rng
  rw [List.getElem?_map, List.getElem?_range h]
  rfl
theorem it_rng {G : Hp} {lo : Int} {n : Nat} : ItOk K G (Itr lo n) ((rng lo n).map D.int) := by
  refine ⟨_, YFn fun i => .int (lo + i), by rw [List.length_map, rng_length]; exact walk_range, fun _ _ => trivial, fun i d G2 H2 x H3 e s1 s2 y => ?_⟩
  obtain ⟨rfl, rfl⟩ := y
  have hi : i < n := by
    rcases Nat.lt_or_ge i n with c | c
    · exact c
    · rw [List.getElem?_eq_none (by rw [List.length_map, rng_length]; exact c)] at e
      cases e
  rw [List.getElem?_map, rng_at hi] at e
  cases e
  exact ⟨G2, .refl s2, .int⟩
theorem i_rng1 {ta : TA} {n : Int} (h : EvA K ta env [.int n]) (hn : n < 2 ^ 62) (h0 : -(2 ^ 62) ≤ n) : EvI K (iRng1 ta) env ((rng 0 n.toNat).map D.int) := fun G0 H0 G H σ S Rr q => h G0 H0 G H σ S _ fun vs G1 H1 l a => by
  cases a with
  | cons a1 a2 =>
    cases a1
    cases a2
    exact ⟨n, rfl, h0, hn, q _ G1 H1 l it_rng⟩
theorem i_rng2 {ta : TA} {m n : Int} (h : EvA K ta env [.int m, .int n]) (h1 : -(2 ^ 62) ≤ m ∧ m < 2 ^ 62 ∧ -(2 ^ 62) ≤ n ∧ n < 2 ^ 62) : EvI K (iRng2 ta) env ((rng m (n - m).toNat).map D.int) := fun G0 H0 G H σ S Rr q => h G0 H0 G H σ S _ fun vs G1 H1 l a => by
  cases a with
  | cons a1 a2 =>
    cases a1
    cases a2 with
    | cons a2 a3 =>
      cases a2
      cases a3
      exact ⟨m, n, rfl, h1, q _ G1 H1 l it_rng⟩

/-- what a turn is to come to: W' before the next one, R behind the loop -/
def turnR (W' : Env → Prop) (R : Out → Prop) : Out → Prop
  | .nx e => W' e
  | .ct e => W' e
  | .bk e => R (.nx e)
  | .rt r => R (.rt r)
  | .rs C => R (.rs C)
theorem q_for {wi : TI} {g : TG} {tb : TS} {items : List D} (W : Nat → Env → Prop) (hi : EvI K wi env items) (h0 : W 0 env)
    (turn : ∀ i d e, items[i]? = some d → W i e → ∃ ts e2, Tgt K g ts d e e2 ∧ Run K E tb e2 (turnR (W (i + 1)) R)) (fin : ∀ e, W items.length e → R (.nx e)) : Run K E (tFor wi g tb) env R := fun G0 H0 G H σ S Dn f => by
  refine hi G0 H0 G H σ S _ fun J G1 H1 l1 ⟨Gp, Y, wk, gp, yy⟩ => ?_
  have l01 : Le G0 H0 G1 H1 := S.le.trans l1
  refine for_it wk (fun i σ H => ∃ G e, Sta K G1 H0 G H σ e ∧ W i e) ⟨G1, env, (S.mono l1).rebase, h0⟩ (fun i σ H _ ⟨G, e, S, _⟩ => gp H (S.le.g.trans S.s)) ?_ ?_
  · rintro i x σ2 H2 H3 hlt ⟨G2, e, S2, w⟩ y
    have ed : items[i]? = some items[i] := List.getElem?_eq_getElem hlt
    obtain ⟨G3, l3, a3⟩ := yy i _ G2 H2 x H3 ed S2.le.g S2.s y
    obtain ⟨ts, e2, tg, run⟩ := turn i _ e ed w
    refine tg G1 H0 G3 H3 σ2 x (S2.mono l3) a3 _ fun σ4 S4 _ => ?_
    refine run G1 H0 G3 H3 σ4 S4 _ fun o q => ?_
    cases o with
    | nx e => exact fun G5 H5 σ5 S5 => ⟨G5, e, S5, q⟩
    | ct e => exact fun G5 H5 σ5 S5 => ⟨G5, e, S5, q⟩
    | bk e => exact fun G5 H5 σ5 S5 => f _ q G5 H5 σ5 (S5.unbase l01)
    | rt r => exact fun u G5 H5 l5 a5 => f _ q u G5 H5 (l01.unbase l5) a5
    | rs C => exact fun G5 H5 l5 => f _ q G5 H5 (l01.unbase l5)
  · rintro σ2 H2 ⟨G2, e, S2, w⟩
    exact f _ (fin e w) G2 H2 σ2 (S2.unbase l01)
theorem q_while {c : TT} {tb : TS} (W : Nat → Env → Prop) (h0 : ∃ m, W m env)
    (turn : ∀ m e, W m e → ∃ b, EvB K c e b ∧ (b = true → Run K E tb e (turnR (fun e' => ∃ m', m' < m ∧ W m' e') R)) ∧ (b = false → R (.nx e))) : Run K E (tWhile c tb) env R := fun G0 H0 G H σ S Dn f => by
  obtain ⟨m, w0⟩ := h0
  refine ⟨fun m σ H => ∃ G e, Sta K G0 H0 G H σ e ∧ W m e, ⟨m, G, env, S, w0⟩, ?_⟩
  rintro m σ2 H2 ⟨G2, e, S2, w⟩
  obtain ⟨b, hb, ht, hf⟩ := turn m e w
  refine hb G0 H0 G2 H2 σ2 S2 _ fun G3 H3 l3 => ?_
  cases b with
  | true =>
    refine iteT ⟨fun σ H => ∃ m', m' < m ∧ ∃ G e, Sta K G0 H0 G H σ e ∧ W m' e, fun σ' H' h => h, ?_⟩
    refine ht rfl G0 H0 G3 H3 σ2 (S2.mono l3) _ fun o q => ?_
    cases o with
    | nx e => obtain ⟨m', h1, h2⟩ := q; exact fun G5 H5 σ5 S5 => ⟨m', h1, G5, e, S5, h2⟩
    | ct e => obtain ⟨m', h1, h2⟩ := q; exact fun G5 H5 σ5 S5 => ⟨m', h1, G5, e, S5, h2⟩
    | bk e => exact fun G5 H5 σ5 S5 => f _ q G5 H5 σ5 S5
    | rt r => exact fun u G5 H5 l5 a5 => f _ q u G5 H5 l5 a5
    | rs C => exact fun G5 H5 l5 => f _ q G5 H5 l5
  | false => exact iteF (f _ (hf rfl) G3 H3 σ2 (S2.mono l3))

def wipeE (e : Env) : List Nat → Env
  | [] => e
  | v :: vs => (wipeE e vs).set v .no
theorem Sta.set_no {G0 H0 G H : Hp} {σ : L2.St} {i : Nat} (S : Sta K G0 H0 G H σ env) : Sta K G0 H0 G H (σ.set i none) (env.set i .no) := by
  refine ⟨S.le, by rw [List.length_set, List.length_set]; exact S.len, fun j b e => ?_, fun j k p o o' e1 e2 e3 e4 => ?_⟩
  · by_cases hj : i = j
    · subst hj
      by_cases hl : i < env.length
      · rw [List.getElem?_set_self hl] at e
        rw [List.getElem?_set_self (by rw [S.len]; exact hl)]
        cases e
        exact ⟨_, rfl, .no⟩
      · rw [List.getElem?_eq_none (by rw [List.length_set]; omega)] at e
        cases e
    · rw [List.getElem?_set_ne hj] at e ⊢
      exact S.at_ j b e
  · have key : ∀ {j : Nat} {o : OO}, (env.set i B.no)[j]? = some (.own o) → i ≠ j := by
      intro j o e z
      subst z
      by_cases hl : i < env.length
      · rw [List.getElem?_set_self hl] at e
        cases e
      · rw [List.getElem?_eq_none (by rw [List.length_set]; omega)] at e
        cases e
    have h1 := key e1
    have h2 := key e2
    rw [List.getElem?_set_ne h1] at e1 e3
    rw [List.getElem?_set_ne h2] at e2 e4
    exact S.dj j k p o o' e1 e2 e3 e4
theorem Sta.wipe {G0 H0 G H : Hp} {σ : L2.St} (S : Sta K G0 H0 G H σ env) : ∀ vs : List Nat, Sta K G0 H0 G H (L2.wipe σ vs) (wipeE env vs)
  | [] => S
  | v :: vs => (Sta.wipe S vs).set_no
theorem eb_yes : EvB K tYes env true := fun G0 H0 G H σ S Q q => q G H (.refl S.s)
theorem ev_lc {wi : TI} {g : TG} {vs : List Nat} {α : Type} {xs : List α} {enc : α → D} (p : α → Bool) (f : α → D) (hi : EvI K wi env (xs.map enc)) (hl : xs.length ≤ 100000)
    (turn : ∀ x, x ∈ xs → ∃ ts e2, Tgt K g ts (enc x) (wipeE env vs) e2 ∧ (∀ t ∈ ts, t ∈ vs) ∧ EvB K tt e2 (p x) ∧ (p x = true → EvD K te e2 (f x))) : Ev K (tLc wi g tt te vs) env (.n (.lst ((xs.filter p).map f))) := fun G0 H0 G H σ S Q q => by
  refine hi G0 H0 G H σ S _ fun J G1 H1 l1 ⟨Gp, Y, wk, gp, yy⟩ => ?_
  intro Da hD
  have S1 := S.mono l1
  refine lc_it wk (fun i H => ∃ G vs, Le G1 H1 G H ∧ H Da = some (.lst vs) ∧ G Da = none ∧ AtL K G (((xs.take i).filter p).map f) vs)
    ⟨G1, [], .newH S1.s hD, upd_same, S1.s.free hD, .nil⟩ (fun i H _ ⟨G, us, l, _⟩ => gp H (l.g.trans l.s)) ?_ ?_
  · rintro i x H2 H3 hlt ⟨G2, us, l2, e2, g2, a2⟩ y
    rw [List.length_map] at hlt
    have ed : (xs.map enc)[i]? = some (enc xs[i]) := by rw [List.getElem?_map, List.getElem?_eq_getElem hlt]; rfl
    obtain ⟨G3, l3, a3⟩ := yy i _ G2 H2 x H3 ed l2.g l2.s y
    obtain ⟨ts, en, tg, tv, hb, he⟩ := turn xs[i] (List.getElem_mem hlt)
    have tk : xs.take (i + 1) = xs.take i ++ [xs[i]] := by rw [List.take_succ, List.getElem?_eq_getElem hlt]; rfl
    have S3 : Sta K G0 H0 G3 H3 (L2.wipe σ vs) (wipeE env vs) := (S1.mono (l2.trans l3)).wipe vs
    refine tg G0 H0 G3 H3 _ x S3 a3 _ fun σ4 S4 w4 => ⟨?_, ?_⟩
    · have z := w4 vs tv
      have zz : ∀ (vs : List Nat) (us : List Nat), (∀ u ∈ us, u ∈ vs) → L2.wipe (L2.wipe σ vs) us = L2.wipe σ vs := by
        intro vs us
        induction us with
        | nil => intro _; rfl
        | cons u us ih =>
          intro hu
          show (L2.wipe (L2.wipe σ vs) us).set u none = L2.wipe σ vs
          rw [ih fun w hw => hu w (List.mem_cons_of_mem _ hw)]
          have hm := hu u List.mem_cons_self
          clear hu ih z w4 tv tg S3 S4 hb he turn
          induction vs with
          | nil => cases hm
          | cons v vs ih =>
            show ((L2.wipe σ vs).set v none).set u none = (L2.wipe σ vs).set v none
            by_cases q : v = u
            · subst q
              rw [List.set_set]
            · rw [List.set_comm _ _ q, ih ((List.mem_cons.mp hm).resolve_left fun z => q z.symm)]
      rw [z]
      exact zz vs vs fun _ h => h
    · refine hb G0 H0 G3 H3 σ4 S4 _ fun G5 H5 l5 => ?_
      have l25 := (l2.trans l3).trans l5
      have h5 : H5 Da = some (.lst us) := l5.h _ _ (l3.h _ _ e2)
      have n5 : G5 Da = none := l5.n _ _ (l3.h _ _ e2) (l3.n _ _ e2 g2)
      cases hp : p xs[i] with
      | true =>
        refine iteT ((he hp).v (S4.mono l5) fun v G6 H6 l6 a6 => ?_)
        have ul : us.length ≤ i := by
          rw [a2.length, List.length_map]
          exact Nat.le_trans (List.length_filter_le _ _) (by rw [List.length_take]; exact Nat.min_le_left _ _)
        have h6 := l6.h _ _ h5
        have n6 := l6.n _ _ h5 n5
        refine ⟨us, h6, Nat.lt_of_le_of_lt ul (Nat.lt_of_lt_of_le (Nat.lt_of_lt_of_le hlt hl) (by decide)), G6, us ++ [v], (l25.trans l6).mut hD n6, upd_same, n6, ?_⟩
        rw [tk, List.filter_append, List.map_append]
        have ef : [xs[i]].filter p = [xs[i]] := by rw [List.filter_cons, if_pos hp]; rfl
        rw [ef]
        exact (((a2.mono l3.g).mono l5.g).mono l6.g).app (.cons a6 .nil)
      | false =>
        refine iteF ⟨G5, us, l25, h5, n5, ?_⟩
        rw [tk, List.filter_append, List.map_append]
        have ef : [xs[i]].filter p = [] := by rw [List.filter_cons, if_neg (by rw [hp]; exact Bool.false_ne_true)]; rfl
        rw [ef, List.map_nil, List.append_nil]
        exact (a2.mono l3.g).mono l5.g
  · rintro H2 ⟨G2, us, l2, e2, g2, a2⟩
    refine q _ G2 H2 (l1.trans l2) (.n e2 (.lst ?_) g2 (l1.h.free hD))
    rw [List.length_map, List.take_length] at a2
    exact a2
/-- no test -/
theorem ev_lcY {wi : TI} {g : TG} {vs : List Nat} {α : Type} {xs : List α} {enc : α → D} (f : α → D) (hi : EvI K wi env (xs.map enc)) (hl : xs.length ≤ 100000)
    (turn : ∀ x, x ∈ xs → ∃ ts e2, Tgt K g ts (enc x) (wipeE env vs) e2 ∧ (∀ t ∈ ts, t ∈ vs) ∧ EvD K te e2 (f x)) : Ev K (tLc wi g tYes te vs) env (.n (.lst (xs.map f))) := by
  have h := ev_lc (te := te) (tt := tYes) (g := g) (vs := vs) (fun _ => true) f hi hl fun x hx => by
    obtain ⟨ts, e2, a, b, c⟩ := turn x hx
    exact ⟨ts, e2, a, b, eb_yes, fun _ => c⟩
  have e : xs.filter (fun _ => true) = xs := List.filter_eq_self.mpr fun _ _ => rfl
  rw [e] at h
  exact h

/-- a def that from data ds hands back some r of which P holds -/
def spF (K : PySem.W.Frag) (n : Nat) (Rl : List D → (Pd.R → Prop) → Prop) : Sp := fun vs H Q _ => ∃ G ds P, Same G H ∧ AtL K G ds vs ∧ ds.length = n ∧ Rl ds P ∧ ∀ r, P r → ∀ u G' H', Le G H G' H' → RAt K H G' H' r u → Q u H'
theorem spF_len {n : Nat} {Rl : List D → (Pd.R → Prop) → Prop} (vs : List V) (H : Hp) (Q : VK) (E : XK) (h : spF K n Rl vs H Q E) : vs.length = n := by
  obtain ⟨G, ds, P, s, a, hn, _⟩ := h
  exact a.length.trans hn
/-- some r of which P holds comes out -/
def EvP (K : PySem.W.Frag) (te : TE) (env : Env) (P : Pd.R → Prop) : Prop := ∀ (G0 H0 G H : Hp) (σ : L2.St), Sta K G0 H0 G H σ env → ∀ Q : VK, (∀ r, P r → ∀ u G' H', Le G H G' H' → RAt K H G' H' r u → Q u H') → te σ H Q
theorem EvP.det {r : Pd.R} (h : EvP K te env (· = r)) : Ev K te env r := fun G0 H0 G H σ S Q q => h G0 H0 G H σ S Q fun r' e => by subst e; exact q
theorem Ev.p {r : Pd.R} {P : Pd.R → Prop} (h : Ev K te env r) (p : P r) : EvP K te env P := fun G0 H0 G H σ S Q q => h G0 H0 G H σ S Q (q r p)
theorem q_asgP {P : Pd.R → Prop} {i : Nat} (h : EvP K te env P) (k : ∀ r, P r → Run K E u (env.set i (.of r)) R) : Run K E (tSeq (tAsg te (gName i)) u) env R := fun G0 H0 G H σ S Dn f =>
  h G0 H0 G H σ S _ fun r p v G' H' l a => k r p G0 H0 G' H' _ (S.set l a) Dn f
theorem q_retP {P : Pd.R → Prop} (h : EvP K te env P) (q : ∀ r, P r → R (.rt r)) : Run K E (tRet te) env R := fun G0 H0 G H σ S Dn f =>
  h G0 H0 G H σ S _ fun r p v G' H' l a => f _ (q r p) v G' H' (S.le.trans l) (a.back S.le.h)
theorem r_dropP {P : Pd.R → Prop} (h : EvP K te env P) (q : R (.nx env)) : Run K E (tDrop te) env R := fun G0 H0 G H σ S Dn f =>
  h G0 H0 G H σ S _ fun r p v G' H' l a => f _ q G' H' _ (S.mono l)
/-- default arguments -/
def Dfl (K : PySem.W.Frag) (dd : List D) (dvs : List V) : Prop := ∀ G : Hp, AtL K G dd dvs
theorem dfl_nil : Dfl K [] [] := fun _ => .nil
theorem ev_callP {n : Nat} {Rl : List D → (Pd.R → Prop) → Prop} {ta : TA} {ds dd : List D} {dvs : List V} {Ex : XK} {P : Pd.R → Prop} (h : EvA K ta env ds) (hd : Dfl K dd dvs) (hr : Rl (ds ++ dd) P) (hn : (ds ++ dd).length = n := by rfl) : EvP K (tCall (spF K n Rl) dvs Ex ta) env P := fun G0 H0 G H σ S Q q =>
  h G0 H0 G H σ S _ fun vs G1 H1 l1 a1 => ⟨G1, ds ++ dd, P, l1.s, a1.app (hd G1), hn, hr, fun r p u G2 H2 l2 a2 => q r p u G2 H2 (l1.trans l2) (a2.back l1.h)⟩
theorem ev_call {n : Nat} {Rl : List D → (Pd.R → Prop) → Prop} {ta : TA} {ds dd : List D} {dvs : List V} {Ex : XK} {r : Pd.R} (h : EvA K ta env ds) (hd : Dfl K dd dvs) (hr : Rl (ds ++ dd) (· = r)) (hn : (ds ++ dd).length = n := by rfl) : Ev K (tCall (spF K n Rl) dvs Ex ta) env r := (ev_callP h hd hr hn).det
theorem ev_methP {n : Nat} {Rl : List D → (Pd.R → Prop) → Prop} {ta : TE} {tr : TA} {C : Addr} {fs : List (Str × D)} {m : Str} {ds dd : List D} {dvs : List V} {Ex : XK} {P : Pd.R → Prop} (ho : EvD K ta env (.ins C fs)) (hm : fs.lookup m = none) (h : EvA K tr env ds) (hd : Dfl K dd dvs)
    (hr : Rl (.ins C fs :: (ds ++ dd)) P) (hn : (ds ++ dd).length + 1 = n := by rfl) : EvP K (tMeth C m (spF K n Rl) dvs Ex ta tr) env P := fun G0 H0 G H σ S Q q =>
  ho.v S fun v G1 H1 l1 a1 => by
    cases a1 with
    | ins h1 h2 =>
      refine ⟨_, _, _, rfl, l1.s _ _ h1, h2.lookup_none hm, ?_⟩
      refine h G0 H0 G1 H1 σ (S.mono l1) _ fun vs G2 H2 l2 a2 => ⟨G2, _, P, l2.s, .cons ((At.ins h1 h2).mono l2.g) (a2.app (hd G2)), hn, hr, fun r p u G3 H3 l3 a3 => q r p u G3 H3 ((l1.trans l2).trans l3) (a3.back (l1.trans l2).h)⟩
theorem ev_meth {n : Nat} {Rl : List D → (Pd.R → Prop) → Prop} {ta : TE} {tr : TA} {C : Addr} {fs : List (Str × D)} {m : Str} {ds dd : List D} {dvs : List V} {Ex : XK} {r : Pd.R} (ho : EvD K ta env (.ins C fs)) (hm : fs.lookup m = none) (h : EvA K tr env ds) (hd : Dfl K dd dvs)
    (hr : Rl (.ins C fs :: (ds ++ dd)) (· = r)) (hn : (ds ++ dd).length + 1 = n := by rfl) : Ev K (tMeth C m (spF K n Rl) dvs Ex ta tr) env r := (ev_methP ho hm h hd hr hn).det
theorem ev_prop {n : Nat} {Rl : List D → (Pd.R → Prop) → Prop} {ta : TE} {C : Addr} {fs : List (Str × D)} {dd : List D} {dvs : List V} {Ex : XK} {r : Pd.R} (ho : EvD K ta env (.ins C fs)) (hd : Dfl K dd dvs)
    (hr : Rl (.ins C fs :: dd) (· = r)) (hn : dd.length + 1 = n := by rfl) : Ev K (tProp C (spF K n Rl) dvs Ex ta) env r := fun G0 H0 G H σ S Q q =>
  ho.v S fun v G1 H1 l1 a1 => by
    cases a1 with
    | ins h1 h2 => exact ⟨_, _, _, rfl, l1.s _ _ h1, G1, _, _, l1.s, .cons (.ins h1 h2) (hd G1), hn, hr, fun r' e u G3 H3 l3 a3 => q u G3 H3 (l1.trans l3) (by subst e; exact a3.back l1.h)⟩
/-- an __init__ that from data ds fills the new instance with fs -/
def spI (K : PySem.W.Frag) (C : Addr) (n : Nat) (Rl : List D → List (Str × D) → Prop) : Sp := fun vs H Q _ => ∃ x dx ws G ds fs, vs = .ref x :: ws ∧ H x = some (.ins C dx []) ∧ G x = none ∧ Same G H ∧ AtL K G ds ws ∧ ds.length + 1 = n ∧ Rl ds fs ∧
  ∀ G' H', Same G G' → Same G' H' → (∀ b o, b ≠ x → H b = some o → H' b = some o) → (∀ b o, H b = some o → b ≠ x → G b = none → G' b = none) → At K G' (.ins C fs) (.ref x) → Q .non H'
theorem spI_len {C : Addr} {n : Nat} {Rl : List D → List (Str × D) → Prop} (vs : List V) (H : Hp) (Q : VK) (E : XK) (h : spI K C n Rl vs H Q E) : vs.length = n := by
  obtain ⟨x, dx, ws, G, ds, fs, rfl, _, _, _, a, hn, _⟩ := h
  rw [List.length_cons, a.length, hn]
theorem ev_make {n : Nat} {Rl : List D → List (Str × D) → Prop} {ta : TA} {C : Addr} {fs : List (Str × D)} {ds dd : List D} {dvs : List V} {Ex : XK} (h : EvA K ta env ds) (hd : Dfl K dd dvs) (hr : Rl (ds ++ dd) fs) (hn : (ds ++ dd).length + 1 = n := by rfl) :
    EvD K (tMake C (spI K C n Rl) dvs Ex ta) env (.ins C fs) := fun G0 H0 G H σ S Q q =>
  h G0 H0 G H σ S _ fun vs G1 H1 l1 a1 x dx hx hdx ne => by
    have sx : Same H1 (upd (upd H1 dx (.own x)) x (.ins C dx [])) := fun b o e => by
      rw [upd_ne (ne_of_none e hx), upd_ne (ne_of_none e hdx)]
      exact e
    refine ⟨x, dx, _, G1, ds ++ dd, fs, rfl, upd_same, l1.s.free hx, l1.s.trans sx, a1.app (hd G1), hn, hr, fun G' H' s1 s2 k1 k2 a => ⟨rfl, q _ G' H' ?_ (.v a)⟩⟩
    refine l1.trans ⟨s1, fun b o e => k1 b o (ne_of_none e hx) (sx b o e), s2, fun b o e g => k2 b o (sx b o e) (ne_of_none e hx) g⟩
theorem sta_start {G H : Hp} {ds : List D} {vs : List V} {N : List Str} (s : Same G H) (a : AtL K G ds vs) (hn : ds.length ≤ N.length) : Sta K G H G H (L2.start N vs) (ds.map B.val ++ List.replicate (N.length - ds.length) .no) := by
  have hl := a.length
  refine ⟨.refl s, ?_, fun i b e => ?_, fun i j l o o' e1 => ?_⟩
  · unfold L2.start
    rw [List.length_append, List.length_append, List.length_map, List.length_map, List.length_replicate, List.length_replicate, hl]
  · unfold L2.start
    by_cases hi : i < ds.length
    · rw [List.getElem?_append_left (by rw [List.length_map]; exact hi), List.getElem?_map, List.getElem?_eq_getElem hi] at e
      cases e
      obtain ⟨v, e1, e2⟩ := a.at_ (List.getElem?_eq_getElem hi)
      refine ⟨some v, ?_, .val e2⟩
      rw [List.getElem?_append_left (by rw [List.length_map, hl]; exact hi), List.getElem?_map, e1]
      rfl
    · rw [List.getElem?_append_right (by rw [List.length_map]; omega), List.getElem?_replicate] at e
      split at e
      · rename_i q
        cases e
        rw [List.length_map] at q
        refine ⟨none, ?_, .no⟩
        rw [List.getElem?_append_right (by rw [List.length_map]; omega), List.getElem?_replicate, if_pos (by rw [List.length_map, hl]; exact q)]
      · cases e
  · exfalso
    rcases Nat.lt_or_ge i ds.length with c | c
    · rw [List.getElem?_append_left (by rw [List.length_map]; exact c), List.getElem?_map, List.getElem?_eq_getElem c] at e1
      cases e1
    · rw [List.getElem?_append_right (by rw [List.length_map]; exact c), List.getElem?_replicate] at e1
      split at e1 <;> cases e1
/-- the reading of a def's body from what it comes to -/
theorem body_of {Rl : List D → (Pd.R → Prop) → Prop} {N : List Str} {n : Nat} {t : TS} {vs : List V} {H : Hp} {Q : VK} {E0 : XK} (no : List B) (h : spF K n Rl vs H Q E0)
    (k : ∀ ds P, ds.length = n → Rl ds P → Run K E0 t (ds.map B.val ++ no) (fun o => (∃ r, P r ∧ o = .rt r) ∨ (P (.v .non) ∧ ∃ e, o = .nx e))) (hN : n ≤ N.length := by decide) (hno : no = List.replicate (N.length - n) .no := by rfl) : t { nx := fun _ H' => Q .non H', rt := Q } (L2.start N vs) H := by
  obtain ⟨G, ds, P, s, a, hl, hr, q⟩ := h
  subst hno
  have S := sta_start (N := N) s a (by rw [hl]; exact hN)
  rw [hl] at S
  refine k ds P hl hr G H G H _ S _ fun o ho => ?_
  rcases ho with ⟨r, p, rfl⟩ | ⟨p, e, rfl⟩
  · exact q r p
  · exact fun G' H' σ' S' => q _ p .non G' H' S'.le (.v .non)
end
end Pd

namespace PySem
open PyProof.Rows L2
/-- a set as it is made -/
abbrev setNew (w : World) : Obj := { cls := .type "set", dict := none, data := .set #[] 0 (.fresh 0 0 (!w.params.followText "set-order")) }
abbrev listIt (l : Addr) : Obj := { cls := .type "list_iterator", data := .fields #[.ref l, .int 0 0] }
section
variable {P : Program} {w : World} {A : Around} {E : Value → Shared → Prop} {s : Shared}
set_option maxHeartbeats 8000000 in
/-- set(xs): the loop that puts the items in, told by Post of the heap behind it -/
theorem call_set_by {l : Addr} {items : Array Value} {Q : Value → Shared → Prop} (Post : Heap → Prop) (hh : A.handled = none) (hl : s.heap.IsList l items)
    (loop : ∀ (A' : Around) (fp : List Addr) (G : Array GenState → Array GenState → Prop) (St : Nat → Shared → Prop) (R : Result → Shared → Prop) (s1 : Shared) (I : Addr) (wr : List Addr), A'.units = A.in1.in1.units → WalksS P w A'.in1 I fp wr G items.size (fun i v => items[i]? = some v) St → s.heap.objs.size ∉ fp → (∀ b ∈ wr, s.heap.get? b = none) →
      St 0 s1 → s1.heap.get? s.heap.objs.size = some (setNew w) → (∀ b o, s.heap.get? b = some o → s1.heap.get? b = some o) →
      (∀ s', Moved (s.heap.objs.size :: wr) G s1 s' → Post s'.heap → R (.ok (.ret .none)) s') → codeAny (model P w) A' (.builtin "set.update.loop" ⟨[.ref s.heap.objs.size, .ref I], []⟩) R s1)
    (h : ∀ (h' : Heap) (tk : Nat), Post h' → (∀ b o, s.heap.get? b = some o → h'.get? b = some o) → Q (.ref s.heap.objs.size) { s with heap := h', toks := tk }) :
    wpAny (model P w) A (call (.type "set") [.ref l]) Q E s := by
  have ⟨c, tl, hmro⟩ := F.called_set.mro
  have hmade := F.called_set.made
  have hsub := F.called_set.sub
  refine wpAny_call (codeAny_of_tree (show wpAny _ _ (callAny (.type "set") _) _ _ _ from ?_))
  refine wpAny_pure ⟨Code.quiet_builtin _ (by decide +kernel), codeAny_builtin F.entry_type_call ?_⟩
  rw [Around.under_plain (weight_type_call_type "set" [.ref l] []) rfl]
  have h1 := F.called_set.notType
  have h2 := F.called_set.canCreate
  have hct := F.typeCall_set_1 (.ref l)
  repeat (any_goals (first | assumption | wp_step))
  refine codeAny_mono (code_set_led1 (.ref l) (E := E) (Q₁ := fun obj s₁ => obj = .ref s.heap.objs.size ∧ s₁ = { s with heap := s.heap.push (setNew w) }) ⟨rfl, rfl⟩) fun r s₁ hr => ?_
  match r, hr with
  | .error e, hr => exact hr
  | .ok (.next), hr => exact hr.elim
  | .ok (.brk), hr => exact hr.elim
  | .ok (.cont), hr => exact hr.elim
  | .ok (.ret obj), hr =>
    obtain ⟨rfl, rfl⟩ := hr
    have hS : (s.heap.push (setNew w)).get? s.heap.objs.size = some (setNew w) := Heap.get?_push_size _ rfl
    have hT : Shared.TypeIs { s with heap := s.heap.push (setNew w) } (.ref s.heap.objs.size) "set" := ⟨_, hS, rfl⟩
    have hli := F.called_set.init.lookup
    have hbi := F.called_set.init.bind (.ref s.heap.objs.size)
    repeat (any_goals (first | assumption | wp_step))
    refine codeAny_mono (codeAny_call_builtin (R := wants (fun r s₂ => r = .none ∧ ∃ h' tk, s₂ = { s with heap := h', toks := tk } ∧ Post h' ∧ (∀ b o, s.heap.get? b = some o → h'.get? b = some o)) E)
      F.called_set.init.plain F.entry_set_init (check_set_init_1 hT ?_)) fun r₂ s₂ hr₂ => ?_
    · obtain ⟨⟨ocls, odict, odata, oslots⟩, hol, hcl, nl, hdl⟩ := hl
      simp only at hcl hdl
      subst hcl hdl
      have hol' : (s.heap.push (setNew w)).get? l = some { cls := .type "list", dict := odict, data := .seq items nl, slots := oslots } := Heap.get?_push_of_some _ hol
      have hsls := F.sub_list_set
      have hslf := F.sub_list_frozenset
      have hne : (Value.type "list" == Value.type "dict") = false := by decide
      have hl1 : (s.heap.push (setNew w)).IsList l items := ⟨_, hol', rfl, nl, rfl⟩
      unfold Builtin.«set.__init__» noKeywords Builtin.Frozenset.updateFrom
      generalize hPI : pyIter = PI
      wp_walk
      subst hPI
      refine wpAny_pyIter_list hl1 (wpAny_bind (wpAny_runValue ?_))
      have hlS : l < s.heap.objs.size := Heap.lt_size hol
      have hz1 : (s.heap.push (setNew w)).objs.size = s.heap.objs.size + 1 := Heap.size_push ..
      have hneI : l ≠ (s.heap.push (setNew w)).objs.size := by rw [hz1]; exact Nat.ne_of_lt (Nat.lt_succ_of_lt hlS)
      have hSf : s.heap.objs.size ∉ [(s.heap.push (setNew w)).objs.size, l] := by
        rw [hz1]
        intro z
        rcases List.mem_cons.mp z with z | z
        · exact absurd z (Nat.ne_of_lt (Nat.lt_succ_self _))
        · exact absurd (List.mem_singleton.mp z) (Nat.ne_of_gt hlS)
      have none_of : ∀ b, s.heap.objs.size ≤ b → s.heap.get? b = none := fun b hb => by
        cases q : s.heap.get? b with
        | none => rfl
        | some o => exact absurd (Nat.lt_of_lt_of_le (Heap.lt_size q) hb) (Nat.lt_irrefl _)
      refine loop _ _ _ _ _ _ _ _ rfl ((Walks.list (by simp [hh]) _ l hneI items).toS) hSf (fun b hb => none_of b (by rw [List.mem_singleton.mp hb, hz1]; exact Nat.le_succ _))
        ⟨⟨_, Heap.get?_push_size _ rfl, rfl, rfl⟩, hl1.push _⟩ (Heap.get?_push_of_some _ hS) (fun b o e => Heap.get?_push_of_some _ (Heap.get?_push_of_some _ e)) fun s' hm hP => ?_
      obtain ⟨h', g2, d', tk', os'⟩ := s'
      have eg : g2 = s.gens := hm.gens
      have ed : d' = s.drawn := hm.drawn
      have eo : os' = s.os := hm.os
      subst eg ed eo
      refine wpAny_pure (show wpAny _ _ (ret Value.none) _ _ _ from wpAny_pure ⟨rfl, h', tk', rfl, hP, fun b o e => ?_⟩)
      have hb0 : b < s.heap.objs.size := Heap.lt_size e
      refine hm.heap b o (fun z => ?_) (Heap.get?_push_of_some _ (Heap.get?_push_of_some _ e))
      rcases List.mem_cons.mp z with z | z
      · exact absurd z (Nat.ne_of_lt hb0)
      · have z2 := List.mem_singleton.mp z
        rw [hz1] at z2
        exact absurd z2 (Nat.ne_of_lt (Nat.lt_succ_of_lt hb0))
    · match r₂, hr₂ with
      | .error e, hr₂ => exact hr₂
      | .ok (.next), hr => exact hr.elim
      | .ok (.brk), hr => exact hr.elim
      | .ok (.cont), hr => exact hr.elim
      | .ok (.ret r), hr₂ =>
        obtain ⟨rfl, h', tk, rfl, hP, hk'⟩ := hr₂
        repeat (any_goals (first | assumption | wp_step))
        exact h _ _ hP hk'
end
end PySem
namespace L2
open PySem PySem.Spec PyProof.Rows
section
variable {P : Program} {w : World} {A : Around} {E : Value → Shared → Prop} {s : Shared}
/-- set(ints) -/
theorem call_set_ints {l : Addr} {items : Array Value} {ns : List Int} {Q : Value → Shared → Prop} (hh : A.handled = none) (hl : s.heap.IsList l items) (hit : IntsAre items.toList ns) (hb : ns.length + 1 < scanBound)
    (h : ∀ (h' : Heap) (tk c : Nat), SetR w h' s.heap.objs.size (fun j => decide (j ∈ ns)) c → c ≤ ns.length → (∀ b o, s.heap.get? b = some o → h'.get? b = some o) → Q (.ref s.heap.objs.size) { s with heap := h', toks := tk }) :
    wpAny (model P w) A (call (.type "set") [.ref l]) Q E s := by
  have hisz : items.size = ns.length := by rw [← IntsAre.length hit, Array.length_toList]
  refine call_set_by (fun h' => ∃ c, c ≤ ns.length ∧ SetR w h' s.heap.objs.size (fun j => decide (j ∈ ns)) c) hh hl (fun A' fp G St R s1 I wr hu W hf hw h0 hS hk hR => ?_) fun h' tk ⟨c, hc, hS⟩ k => h h' tk c hS hc k
  refine set_update_ints W s.heap.objs.size hf ns hisz hb (fun i v hv => ?_) items.size 0 s1 (by omega) (Nat.zero_le _) h0 ⟨0, Nat.le_refl 0, setR_new_at hS⟩ fun s' c hm hc hS' => hR s' hm ⟨c, by omega, hS'⟩
  have hi : i < ns.length := by rw [← hisz]; exact (Array.getElem?_eq_some_iff.mp hv).1
  obtain ⟨t, e⟩ := IntsAre.int_at hit i v (by rw [Array.getElem?_toList]; exact hv)
  refine ⟨ns[i], t, List.getElem?_eq_getElem hi, ?_⟩
  rw [e, List.getD_eq_getElem?_getD, List.getElem?_eq_getElem hi]
  rfl
/-- sorted(a set of ints) -/
theorem sorted_setI {a : Addr} {S : Int → Bool} {n : Nat} {Q : Value → Shared → Prop} (R : SetR w s.heap a S n) (hh : A.handled = none)
    (hQ : ∀ s' p (out : Array Value) (c : Nat) (ns : List Int), (∀ b o, s.heap.get? b = some o → s'.heap.get? b = some o) → s'.gens = s.gens → s'.os = s.os → s.heap.objs.size ≤ p →
      s'.heap.get? p = some (seqObj "list" out c) → IntsAre out.toList ns → ns.Pairwise (· < ·) → (∀ k, k ∈ ns ↔ S k = true) → ns.length = n → Q (.ref p) s') : wpAny (model P w) A (call (.builtin "sorted") [.ref a]) Q E s := by
  have ⟨o, es, ep, t, ho, hex, hd, g, nd, hm, hb, hf, hn, hr, hl⟩ := R
  refine Calls.call_function_entry kind_sorted plain_sorted entry_sorted (args_sorted1 _) ?_
  unfold Builtin.«sorted»
  refine wpAny_bind (m := checkCount "sorted" 1 1 _) (wpAny_pure (wpAny_bind (collect_set (A := A.in1) hh ⟨o, ho, hex.1, hd⟩ hf hb hr hl fun s1 vs k1 hz g1 o1 pm => ?_)))
  have hvl : vs.length = n := by rw [pm.length_eq, List.length_map, Array.length_toList]; exact hn
  have hvb : vs.length ≤ sizeLine := by rw [hvl, ← hn, sizeLine_eq]; unfold scanBound at hb; omega
  have hI : IntsAre vs (vs.map Builtin.Re.reRawOf) := ints_of vs fun v hv => by
    obtain ⟨e, he, q⟩ := List.mem_map.mp (pm.mem_iff.mp hv)
    obtain ⟨k, tk, h1, _⟩ := g e he
    exact ⟨k, tk, q ▸ h1⟩
  have pk : (vs.map Builtin.Re.reRawOf).Perm (es.toList.map keyOf) := by
    have q := pm.map Builtin.Re.reRawOf
    rw [List.map_map] at q
    exact q
  refine wpAny_bind (wpAny_newList ?_ hvb)
  have hoL : (s1.heap.push (seqObj "list" vs.toArray 0)).get? s1.heap.objs.size = some (seqObj "list" vs.toArray 0) := Heap.get?_push_size _ rfl
  refine wpAny_bind (wpAny_holding (wpAny_call_entry slot_list_sort ⟨_, hoL, rfl⟩ entry_list_sort (SrtO.list_sort_ord SrtO.swo_int hoL hvb (fun h2 => SrtO.ints_sortable hI h2) fun out a1 a2 => ⟨_, rfl, ?_⟩) (args_list_sort _)))
  obtain ⟨k1', k2, k3⟩ := SrtO.ints_out hI a1 a2
  obtain ⟨c, hc⟩ := sortedHeap_at (vs := vs) (out := out.toArray) hoL
  have pn := k2.trans pk
  refine wpAny_pure ⟨_, rfl, hQ _ s1.heap.objs.size out.toArray c (out.map SrtO.iv) (fun b u e => ?_) g1 o1 hz hc (by simpa using k1') (lt_of_le_nodup _ k3 (pn.nodup_iff.mpr nd)) (fun k => by rw [pn.mem_iff, ← hm k]) (by rw [pn.length_eq, List.length_map, Array.length_toList]; exact hn)⟩
  have q := k1 b u e
  have hlt := Heap.lt_size q
  show (sortedHeap (s1.heap.push (seqObj "list" vs.toArray 0)) s1.heap.objs.size vs out.toArray).get? b = some u
  rw [sortedHeap_old (Nat.ne_of_lt hlt) (by rw [size_push']; exact Nat.lt_succ_of_lt hlt)]
  exact Heap.get?_push_of_some _ q
end
section
variable {X : Cx}
/-- set(ints): the set at a, all members told -/
def rSetOfI (K : PySem.W.Frag) (w : World) : List V → Hp → VK → Prop := fun xs H Q => ∃ (l : Addr) (ns : List Int), xs = [V.ref l] ∧ SqL K H l (ns.map V.int) ∧ ns.length < 4000 ∧
  ∀ a c, H a = none → Q (.ref a) (upd H a (SetO w a (fun j => decide (j ∈ ns)) c))
theorem cr_setOfI (hc : X.calm = true) : CallR X (.type "set") (rSetOfI X.K X.w) := by
  intro pins s σ H xs us Q I r h
  obtain ⟨l, ns, rfl, hl, hf, q⟩ := h
  rw [Vals.ref1 r]
  obtain ⟨its, rv, pl, hz⟩ := I.list hl
  have hn : H s.heap.objs.size = none := I.hok.fresh (Nat.le_refl _)
  refine call_set_ints (ns := ns) (I.ok.hd hc) pl.isList (by simpa using rv.ints) (by unfold scanBound; omega) fun h' tk c R _ k => ?_
  exact ⟨.ref s.heap.objs.size, upd H s.heap.objs.size (SetO X.w s.heap.objs.size (fun j => decide (j ∈ ns)) c), I.laid (t' := tk) k (Nat.le_refl _) (setO_new R), rfl, q _ c hn⟩
def rSortedSI (w : World) : List V → Hp → VK → Prop := fun vs H Q => ∃ (a : Addr) (S : Int → Bool) (n : Nat), vs = [V.ref a] ∧ H a = some (SetO w a S n) ∧
  ∀ (ns : List Int) (p : Addr), ns.Pairwise (· < ·) → (∀ k : Int, k ∈ ns ↔ S k = true) → H p = none → Q (.ref p) (upd H p (.lst (ns.map V.int)))
theorem cr_sortedSI (hc : X.calm = true) : CallR X (.builtin "sorted") (rSortedSI X.w) := by
  intro pins s σ H vs us Q I r h
  obtain ⟨a, S, n, rfl, ha, q⟩ := h
  have R := setO_get I ha
  have hb : n < 4096 := by
    obtain ⟨_, _, _, _, _, _, _, _, _, _, hb, _, hn, _⟩ := R
    rw [← hn]
    exact hb
  rw [Vals.ref1 r]
  refine sorted_setI R (I.ok.hd hc) fun s' p out c ns k g o hp hg hi hs hm hl => ?_
  have hlen : (ns.map V.int).length ≤ sizeLine := by rw [List.length_map, hl, sizeLine_eq]; omega
  have hn : H p = none := I.hok.fresh hp
  have J : Inv X pins σ (upd H p (.lst (ns.map V.int))) { s with heap := s'.heap, gens := s'.gens, drawn := s'.drawn, toks := s'.toks } :=
    I.call (ch := []) (Un.laid k hp hn) (I.hok.laid k hp ⟨hlen, out.toList, c, vals_of_ints hi, hg⟩) (by rw [g]; exact I.bare) (fun _ z => nomatch z)
  have e : s' = { s with heap := s'.heap, gens := s'.gens, drawn := s'.drawn, toks := s'.toks } := by
    cases s'; cases s; cases o; rfl
  exact e ▸ ⟨.ref p, _, J, rfl, q ns p hs hm hn⟩
end
end L2

namespace L2
open PySem PySem.Spec PyProof.Rows
section
variable {X : Cx} {pins : List (Addr × Obj)} {σ : L2.St} {H : Hp} {s : Shared} {A : Around} {E : Value → Shared → Prop}
theorem dt_setd {a b : Addr} {k : List Key} {kvs : List (List Key × V)} {z : V} {r : Value} {Q : Value → Shared → Prop} (hu : A.units + 1 < cLine) (I : Inv X pins σ H s) (e : H a = some (.dT kvs)) (eb : H b = some (.tup (k.map kV))) (rz : RelV z r) (hl : kvs.length < sizeLine)
    (h1 : ∀ v, valV kvs k = some v → ∀ (w' : Value) (s' : Shared), Inv X pins σ H s' → RelV v w' → Q w' s')
    (h2 : valV kvs k = none → ∀ (w' : Value) (s' : Shared), Inv X pins σ (upd H a (.dT (putK kvs k z))) s' → RelV z w' → Q w' s') :
    wpAny (model X.prog X.w) A (call (.builtin "dict.setdefault") [.ref a, .ref b, r]) Q E s := by
  obtain ⟨hz, hd, xs, rel, dd⟩ := dt_of I.hok e
  have hx : xs.length ≤ sizeLine := by rw [← Paired.length rel]; exact hz
  refine call_setdefault_heap (hsz := hx) (tupleKind_room_in1 hu) (key_of I.hok eb) hd dd (fun p hp => ?_) fun hn h' dd' hs => ?_
  · have q := rel.val k
    rw [hp] at q
    cases q0 : valV kvs k with
    | none => rw [q0] at q; exact (show False from q).elim
    | some v0 => rw [q0] at q; exact h1 v0 q0 _ _ (I.tok _) q
  · have q := rel.val k
    rw [hn] at q
    cases q0 : valV kvs k with
    | some v0 => rw [q0] at q; exact (show False from q).elim
    | none =>
      have hl2 : (putK kvs k z).length ≤ sizeLine := by have := length_putK kvs k z; omega
      obtain ⟨o, es, ep, hq, g2, g3, g4, _, g5⟩ := dd'
      refine h2 q0 _ _ (d_write (t' := s.toks + _) I (by rw [e]; exact True.intro) hs ⟨o, hq⟩ ⟨hl2, hd, _, (rel.put k eb rz).keeps fun c ys ec => ?_, o, es, ep, hq, g2, g3, g4, g5⟩) rz
      rw [upd_ne (ne_of ec e (fun z => nomatch z))]
      exact ec
end
/-- d.setdefault(t, z), d with tuples as keys -/
def tDSetT (td ty tx : TE) : TE := fun σ H Q => td σ H fun x H1 => ∃ a, x = .ref a ∧ IsD H1 a ∧ ty σ H1 fun y H2 => tx σ H2 fun z H3 => ∃ (kvs : List (List Key × V)) (k : List Key) (b : Addr), H3 a = some (.dT kvs) ∧ y = .ref b ∧ H3 b = some (.tup (k.map kV)) ∧ kvs.length < sizeLine ∧
  (∀ v, valV kvs k = some v → Q v H3) ∧ (valV kvs k = none → Q z (upd H3 a (.dT (putK kvs k z))))
section
variable {X : Cx} {o e f : Expr} {td ty tx : TE} {apos cpos : Pos}
theorem pe_dsetT (hu : X.A.units + 1 < cLine) (ho : PE X o td) (he : PE X e ty) (hf : PE X f tx) (m : M2 X o "setdefault" apos e f cpos) : PE X (.Call (.Attribute o "setdefault" apos) [e, f] [] cpos) (tDSetT td ty tx) := by
  refine ⟨fun pins s σ H Q I h => ?_⟩
  refine wpAny_Call_method m.base m.few m.line PySem.F.plainAttrs_dict PySem.F.slot_dict_setdefault PySem.F.type_dict_setdefault (thn (ho.run pins s σ H _ I h) fun u s1 ⟨x, H1, I1, rx, a, ex, d, q1⟩ => ?_)
  subst ex
  cases (show u = Value.ref a from rx)
  obtain ⟨t1, t2, _⟩ := isD_at I1 d
  refine ⟨t1, t2, ?_⟩
  rw [m.trees]
  refine Calls.callWith_builtin rfl (Calls.evalArgs_plain (Calls.spliced_cons (thn (he.run pins s1 σ H1 _ I1 q1) fun iv s2 ⟨y, H2, I2, ry, q2⟩ =>
    Calls.spliced_cons (thn (hf.run pins s2 σ H2 _ I2 q2) fun fv s3 ⟨z, H3, I3, rz, kvs, k, b, ea, ey, eb, hl, q3, q4⟩ => Calls.spliced_nil ?_))))
  subst ey
  cases (show iv = Value.ref b from ry)
  exact dt_setd hu I3 ea eb rz hl (fun v hv w' s4 I4 rw' => ⟨v, _, I4, rw', q3 v hv⟩) fun hn w' s4 I4 rw' => ⟨z, _, I4, rw', q4 hn⟩
end
theorem tuple_mul_self (l : Addr) (items : Array Value) (n : Nat) (dd : Option Addr) (sl : Array (Option Value)) (x : Int) (u : Tok) (c0 : (decide (x < -(2 ^ 63)) || decide (x ≥ 2 ^ 63)) = false) (c1 : (items.isEmpty || x == 1) = true) :
    Meets (Builtin.«tuple.__mul__» ⟨[.ref l, .int x u], []⟩) (fun _ R s => s.heap.get? l = some { cls := .type "tuple", dict := dd, data := .seq items n, slots := sl } ∧ R (.ok (.ret (Value.ref l))) s) :=
  .of_wp fun prog w A R s h => by
    obtain ⟨hp, g, d, tk, os⟩ := s
    obtain ⟨hl, h⟩ := h
    have f1 := AutoSeq1.idx_int
    wp_walk using wpAny_loadPart' hl
    repeat (first
      | (refine wpAny_ite_false (decide_eq_false (by rw [c0]; exact Bool.false_ne_true)) ?_; wp_walk using wpAny_loadPart' hl)
      | (refine wpAny_ite_true (decide_eq_true (by exact c1)) ?_; wp_walk using wpAny_loadPart' hl)
      | (refine wpAny_ite_true (decide_eq_true (by rfl)) ?_; wp_walk using wpAny_loadPart' hl))
    exact ⟨_, rfl, h⟩
/-- t * k, 1 <= k -/
def rRepA (K : PySem.W.Frag) : R2 := fun x y H Q => ∃ l k xs, x = .ref l ∧ y = .int k ∧ SqT K H l xs ∧ 1 ≤ k ∧ k ≤ 1000 ∧ xs.length ≤ 1000 ∧ (xs = [] ∨ k = 1 → Q (.ref l) H) ∧ (xs ≠ [] → 2 ≤ k → ∀ p, H p = none → Q (.ref p) (upd H p (.tup (List.replicate k.toNat xs).flatten)))
section
variable {X : Cx}
theorem op_repA : OpR X (binaryOp .Mult) (rRepA X.K) := by
  intro pins s σ H x y v u Q I rx ry h
  obtain ⟨l, k, xs, rfl, rfl, hT, h1, h2, hz, q1, q2⟩ := h
  by_cases hc : xs = [] ∨ k = 1
  · cases rx
    obtain ⟨t, rfl⟩ := ry
    obtain ⟨its, r, ⟨⟨cls, dd, data, sl⟩, ho, hcl, n, hd⟩, hs⟩ := I.tuple hT
    simp only at hcl hd
    subst hcl hd
    have c0 : (decide (k < -(2 ^ 63)) || decide (k ≥ 2 ^ 63)) = false := by
      rw [decide_eq_false (by omega), decide_eq_false (by omega)]
      rfl
    have c1 : (its.toArray.isEmpty || k == 1) = true := by
      rcases hc with e | e
      · have : its = [] := List.eq_nil_of_length_eq_zero (by rw [← r.length, e]; rfl)
        rw [this]
        rfl
      · rw [e]
        simp
    exact wpAny_binaryOp_repeat_ref (T := "tuple") (U := "int") (by decide) ⟨_, ho, rfl⟩ (fun s' => typeIs_int s' k t) noFill_tuple_mul F.fills_int_mul F.slot_int_rmul repeat_tuple F.slot_int_index.lookup
      (call_meets F.slot_int_rmul (typeIs_int s k t) F.entry_int_rmul (F.args_int_rmul_2 _ _) (int_rmul_tuple k t l its.toArray n dd sl)
        ⟨ho, rfl, ⟨_, ho, rfl⟩, call_meets F.slot_tuple_mul ⟨_, ho, rfl⟩ F.entry_tuple_mul (F.args_tuple_mul_2 _ _) (tuple_mul_self l its.toArray n dd sl k t c0 c1) ⟨ho, .ref l, H, I, rfl, q1 hc⟩⟩)
  · have hx : xs ≠ [] := fun e => hc (.inl e)
    have hk : k ≠ 1 := fun e => hc (.inr e)
    exact op_repT pins s σ H _ _ v u Q I rx ry ⟨l, k, xs, rfl, rfl, hT, hx, by omega, h2, hz, q2 hx (by omega)⟩
end
end L2

namespace Pd
open PySem L2
section
variable {K : PySem.W.Frag} {env : Env} {te ta tb tc ty : TE} {tt : TT} {E : XK} {R : Out → Prop}
def D.sc : D → Prop
  | .non => True
  | .bl _ => True
  | .int _ => True
  | .str _ => True
  | _ => False
theorem At.sc {G G' : Hp} {d : D} {v : V} (q : d.sc) (h : At K G d v) : At K G' d v := by
  cases h with
  | non => exact .non
  | bl => exact .bl
  | int => exact .int
  | str => exact .str
  | _ => exact (show False from q).elim
/-- G without what stands at l -/
def cutH (G : Hp) (l : Addr) : Hp := fun a => if a = l then none else G a
theorem Le.cut {G H G1 H1 : Hp} {l : Addr} {h : HO} (s : Same G H) (e : H l = some h) (g : G l = none) (le : Le (upd G l h) H G1 H1) : Le G H (cutH G1 l) H1 := by
  refine ⟨fun b o q => ?_, le.h, fun b o q => ?_, fun a o h1 h2 => ?_⟩
  · unfold cutH
    have : b ≠ l := fun z => by rw [z, g] at q; cases q
    rw [if_neg this]
    exact le.g b o (by rw [upd_ne this]; exact q)
  · unfold cutH at q
    split at q
    · cases q
    · exact le.s b o q
  · unfold cutH
    split
    · rfl
    · rename_i q
      exact le.n a o h1 (by rw [upd_ne q]; exact h2)
theorem ev_peek {i : Nat} {o : OO} {d : D} (e : env[i]? = some (.own o)) (h : EvD K te (env.set i (.val o.d)) d) (q0 : d.sc) : EvD K te env d := fun G0 H0 G H σ S Q q => by
  obtain ⟨l, u, h1, h2, h3, h4, h5⟩ := S.own e
  have S2 : Sta K G0 H0 (upd G l u) H σ (env.set i (.val o.d)) := S.fixAt e h1 h2
  refine h.v S2 fun v G1 H1 le a => q v (cutH G1 l) H1 (le.cut S.s h2 h4) (.v (a.sc q0))
theorem eb_peek {i : Nat} {o : OO} {b : Bool} (e : env[i]? = some (.own o)) (h : EvB K tt (env.set i (.val o.d)) b) : EvB K tt env b := fun G0 H0 G H σ S Q q => by
  obtain ⟨l, u, h1, h2, h3, h4, h5⟩ := S.own e
  have S2 : Sta K G0 H0 (upd G l u) H σ (env.set i (.val o.d)) := S.fixAt e h1 h2
  exact h G0 H0 _ H σ S2 Q fun G1 H1 le => q (cutH G1 l) H1 (le.cut S.s h2 h4)
/-- an item of one's own list -/
theorem ev_ixO {i : Nat} {ds : List D} {ti : TE} {j : Int} {d : D} (e : env[i]? = some (.own (.lst ds))) (hj : EvD K ti env (.int j)) (ha : atI ds j = some d) : EvD K (tOp (rIxL K) (tVar i) ti) env d := fun G0 H0 G H σ S Q q => by
  obtain ⟨l, u, h1, h2, h3, h4, h5⟩ := S.own e
  cases h3 with
  | lst a =>
    refine ⟨_, h1, ?_⟩
    refine hj.v S fun v G1 H1 le b => ?_
    cases b
    obtain ⟨n, e1, e2⟩ : ∃ n, ixN ds.length j = some n ∧ ds[n]? = some d := by
      unfold atI at ha
      cases z : ixN ds.length j with
      | none => rw [z] at ha; cases ha
      | some n => rw [z] at ha; exact ⟨n, rfl, ha⟩
    obtain ⟨w, f1, f2⟩ := a.at_ e2
    exact ⟨_, _, j, w, rfl, rfl, .inl (.inl (le.h _ _ h2)), by unfold atI; rw [a.length, e1]; exact f1, q w G1 H1 le (.v (f2.mono le.g))⟩

theorem AtL.one {G : Hp} {d : D} {vs : List V} (h : AtL K G [d] vs) : ∃ v, vs = [v] ∧ At K G d v := by
  cases h with
  | cons a t => cases t; exact ⟨_, rfl, a⟩
theorem AtL.two {G : Hp} {d e : D} {vs : List V} (h : AtL K G [d, e] vs) : ∃ v w, vs = [v, w] ∧ At K G d v ∧ At K G e w := by
  cases h with
  | cons a t => obtain ⟨w, rfl, b⟩ := t.one; exact ⟨_, _, rfl, a, b⟩
theorem c_lenL {d0 : D} {ds : List D} (q0 : isSeq d0 ds := by rfl) : OpC K (fun xs H Q => ∃ p ys, xs = [.ref p] ∧ (SqL K H p ys ∨ SqT K H p ys) ∧ Q (.int ys.length) H) [d0] (.v (.int ds.length)) := fun G H vs s a Q q => by
  obtain ⟨v, rfl, a'⟩ := a.one
  replace a := a'
  obtain ⟨p, vs, rfl, h, l⟩ := a.seqL q0
  exact ⟨p, vs, rfl, .inl (s.seq h), by rw [l.length]; exact q _ G H (.refl s) (.v .int)⟩
theorem c_lenT {ds : List D} : OpC K (fun xs H Q => ∃ p ys, xs = [.ref p] ∧ (SqL K H p ys ∨ SqT K H p ys) ∧ Q (.int ys.length) H) [.tup ds] (.v (.int ds.length)) := fun G H vs s a Q q => by
  obtain ⟨v, rfl, a'⟩ := a.one
  replace a := a'
  cases a with
  | tup h l => exact ⟨_, _, rfl, .inr (same_t s h), by rw [l.length]; exact q _ G H (.refl s) (.v .int)⟩
theorem c_int {i : Int} : OpC K (fun xs H Q => (∃ i, xs = [.int i] ∧ Q (.int i) H) ∨ ∃ k, xs = [.bl k] ∧ Q (.int (if k then 1 else 0)) H) [.int i] (.v (.int i)) := fun G H vs s a Q q => by
  obtain ⟨v, rfl, a'⟩ := a.one
  replace a := a'
  cases a
  exact .inl ⟨i, rfl, q _ G H (.refl s) (.v .int)⟩
theorem c_intB {b : Bool} : OpC K (fun xs H Q => (∃ i, xs = [.int i] ∧ Q (.int i) H) ∨ ∃ k, xs = [.bl k] ∧ Q (.int (if k then 1 else 0)) H) [.bl b] (.v (.int (if b then 1 else 0))) := fun G H vs s a Q q => by
  obtain ⟨v, rfl, a'⟩ := a.one
  replace a := a'
  cases a
  exact .inr ⟨b, rfl, q _ G H (.refl s) (.v .int)⟩
theorem c_min {i j : Int} : OpC K (fun xs H Q => ∃ i j, xs = [.int i, .int j] ∧ Q (.int (if j < i then j else i)) H) [.int i, .int j] (.v (.int (min i j))) := fun G H vs s a Q q => by
  obtain ⟨v, w, rfl, a', b⟩ := a.two
  replace a := a'
  cases a; cases b
  have e : min i j = if j < i then j else i := by
    rw [Int.min_def]
    split <;> split <;> omega
  rw [e] at q
  exact ⟨i, j, rfl, q _ G H (.refl s) (.v .int)⟩
theorem c_max {i j : Int} : OpC K (fun xs H Q => ∃ i j, xs = [.int i, .int j] ∧ Q (.int (if j > i then j else i)) H) [.int i, .int j] (.v (.int (max i j))) := fun G H vs s a Q q => by
  obtain ⟨v, w, rfl, a', b⟩ := a.two
  replace a := a'
  cases a; cases b
  have e : max i j = if j > i then j else i := by
    rw [Int.max_def]
    split <;> split <;> omega
  rw [e] at q
  exact ⟨i, j, rfl, q _ G H (.refl s) (.v .int)⟩
theorem RAt.newL {G H : Hp} {p : Addr} {ds : List D} {vs : List V} (s : Same G H) (hp : H p = none) (l : AtL K G ds vs) : RAt K H G (upd H p (.lst vs)) (.n (.lst ds)) (.ref p) := .n upd_same (.lst l) (s.free hp) hp
theorem RAt.newT {G H : Hp} {p : Addr} {ds : List D} {vs : List V} (s : Same G H) (hp : H p = none) (l : AtL K G ds vs) : RAt K H (upd G p (.tup vs)) (upd H p (.tup vs)) (.v (.tup ds)) (.ref p) := .v (.tup (.inl (.inl upd_same)) (l.mono (same_upd (s.free hp))))
theorem c_listL {d0 : D} {ds : List D} (q0 : isSeq d0 ds := by rfl) : OpC K (fun xs H Q => ∃ p ys, xs = [.ref p] ∧ (SqL K H p ys ∨ SqT K H p ys) ∧ ∀ l, H l = none → Q (.ref l) (upd H l (.lst ys))) [d0] (.n (.lst ds)) := fun G H vs s a Q q => by
  obtain ⟨v, rfl, a'⟩ := a.one
  replace a := a'
  obtain ⟨p, vs, rfl, h, l⟩ := a.seqL q0
  exact ⟨p, vs, rfl, .inl (s.seq h), fun x hx => q _ _ _ (.newH s hx) (.newL s hx l)⟩
theorem c_listT {ds : List D} : OpC K (fun xs H Q => ∃ p ys, xs = [.ref p] ∧ (SqL K H p ys ∨ SqT K H p ys) ∧ ∀ l, H l = none → Q (.ref l) (upd H l (.lst ys))) [.tup ds] (.n (.lst ds)) := fun G H vs s a Q q => by
  obtain ⟨v, rfl, a'⟩ := a.one
  replace a := a'
  cases a with
  | tup h l => exact ⟨_, _, rfl, .inr (same_t s h), fun x hx => q _ _ _ (.newH s hx) (.newL s hx l)⟩
theorem c_tupL {d0 : D} {ds : List D} (q0 : isSeq d0 ds := by rfl) : OpC K (fun xs H Q => ∃ p ys, xs = [.ref p] ∧ ((SqL K H p ys ∧ ∀ l, H l = none → Q (.ref l) (upd H l (.tup ys))) ∨ (SqT K H p ys ∧ Q (.ref p) H))) [d0] (.v (.tup ds)) := fun G H vs s a Q q => by
  obtain ⟨v, rfl, a'⟩ := a.one
  replace a := a'
  obtain ⟨p, vs, rfl, h, l⟩ := a.seqL q0
  exact ⟨p, vs, rfl, .inl ⟨s.seq h, fun x hx => q _ _ _ (.new s hx) (.newT s hx l)⟩⟩
theorem c_tupT {ds : List D} : OpC K (fun xs H Q => ∃ p ys, xs = [.ref p] ∧ ((SqL K H p ys ∧ ∀ l, H l = none → Q (.ref l) (upd H l (.tup ys))) ∨ (SqT K H p ys ∧ Q (.ref p) H))) [.tup ds] (.v (.tup ds)) := fun G H vs s a Q q => by
  obtain ⟨v, rfl, a'⟩ := a.one
  replace a := a'
  cases a with
  | tup h l => exact ⟨_, _, rfl, .inr ⟨same_t s h, q _ G H (.refl s) (.v (.tup h l))⟩⟩
theorem c_sum {ns : List Int} {d0 : D} (q0 : isSeq d0 (ns.map D.int) := by rfl) : OpC K (rSum K) [d0] (.v (.int ns.sum)) := fun G H vs s a Q q => by
  obtain ⟨v, rfl, a'⟩ := a.one
  replace a := a'
  obtain ⟨p, vs, rfl, h, l⟩ := a.seqL q0
  exact ⟨p, ns, rfl, by rw [← l.ints]; exact s.seq h, q _ G H (.refl s) (.v .int)⟩
theorem c_all {bs : List Bool} {d0 : D} (q0 : isSeq d0 (bs.map D.bl) := by rfl) : OpC K (rAll K) [d0] (.v (.bl (bs.all id))) := fun G H vs s a Q q => by
  obtain ⟨v, rfl, a'⟩ := a.one
  replace a := a'
  obtain ⟨p, vs, rfl, h, l⟩ := a.seqL q0
  exact ⟨p, bs, rfl, by rw [← l.bls]; exact s.seq h, q _ G H (.refl s) (.v .bl)⟩
theorem c_any {bs : List Bool} {d0 : D} (q0 : isSeq d0 (bs.map D.bl) := by rfl) : OpC K (rAny K) [d0] (.v (.bl (bs.any id))) := fun G H vs s a Q q => by
  obtain ⟨v, rfl, a'⟩ := a.one
  replace a := a'
  obtain ⟨p, vs, rfl, h, l⟩ := a.seqL q0
  exact ⟨p, bs, rfl, by rw [← l.bls]; exact s.seq h, q _ G H (.refl s) (.v .bl)⟩
theorem sorted_one : ∀ {xs ys : List Int}, xs.Perm ys → xs.Pairwise (· ≤ ·) → ys.Pairwise (· ≤ ·) → xs = ys
  | [], ys, p, _, _ => p.nil_eq
  | x :: xs, [], p, _, _ => p.symm.nil_eq.symm
  | x :: xs, y :: ys, p, h1, h2 => by
    obtain ⟨a1, a2⟩ := List.pairwise_cons.mp h1
    obtain ⟨b1, b2⟩ := List.pairwise_cons.mp h2
    have e : x = y := by
      have m1 : x ∈ y :: ys := p.mem_iff.mp List.mem_cons_self
      have m2 : y ∈ x :: xs := p.mem_iff.mpr List.mem_cons_self
      rcases List.mem_cons.mp m1 with z | z
      · exact z
      · rcases List.mem_cons.mp m2 with w | w
        · exact w.symm
        · exact Int.le_antisymm (a1 y w) (b1 x z)
    subst e
    rw [sorted_one (List.perm_cons x |>.mp p) a2 b2]
def isort (ns : List Int) : List Int := ns.mergeSort fun a b => decide (a ≤ b)
theorem isort_perm (ns : List Int) : (isort ns).Perm ns := List.mergeSort_perm _ _
theorem isort_sorted (ns : List Int) : (isort ns).Pairwise (· ≤ ·) := by
  have h := List.pairwise_mergeSort (le := fun a b : Int => decide (a ≤ b)) (fun a b c h1 h2 => by simp at *; omega) (fun a b => by simp; omega) ns
  exact h.imp fun h => by simpa using h
theorem c_sortI {ns : List Int} {d0 : D} (q0 : isSeq d0 (ns.map D.int) := by rfl) : OpC K (rSortedI K) [d0] (.n (.lst ((isort ns).map D.int))) := fun G H vs s a Q q => by
  obtain ⟨v, rfl, a'⟩ := a.one
  replace a := a'
  obtain ⟨p, vs, rfl, h, l⟩ := a.seqL q0
  refine ⟨p, ns, rfl, by rw [← l.ints]; exact s.seq h, fun ms x hp hs hx => ?_⟩
  rw [sorted_one (hp.trans (isort_perm ns).symm) hs (isort_sorted ns)]
  exact q _ _ _ (.newH s hx) (.newL s hx (.of_map (fun _ => .int) _))

def cutD (ds : List D) (lo hi : Option Int) : List D := (ds.drop (HT.sIx ds.length 0 lo)).take (HT.sIx ds.length ds.length hi - HT.sIx ds.length 0 lo)
def OpS (K : PySem.W.Frag) (r : V → Option Int → Option Int → Hp → VK → Prop) (x : D) (lo hi : Option Int) (z : Pd.R) : Prop := ∀ (G H : Hp) (v : V), Same G H → At K G x v → ∀ Q : VK, (∀ u G' H', Le G H G' H' → RAt K H G' H' z u → Q u H') → r v lo hi H Q
theorem ev_sl {r : V → Option Int → Option Int → Hp → VK → Prop} {tl th : TO} {x : D} {lo hi : Option Int} {z : Pd.R} (h : EvD K te env x) (h1 : EvO K tl env lo) (h2 : EvO K th env hi) (hr : OpS K r x lo hi z) : Ev K (tSl r te tl th) env z := fun G0 H0 G H σ S Q q =>
  h.v S fun v G1 H1 l1 a1 => h1 G0 H0 G1 H1 σ (S.mono l1) _ fun G2 H2 l2 => h2 G0 H0 G2 H2 σ ((S.mono l1).mono l2) _ fun G3 H3 l3 =>
    hr G3 H3 v l3.s ((a1.mono l2.g).mono l3.g) Q fun u G4 H4 l4 a4 => q u G4 H4 (((l1.trans l2).trans l3).trans l4) (a4.back ((l1.trans l2).trans l3).h)
theorem s_list {d0 : D} {ds : List D} {lo hi : Option Int} (q0 : isSeq d0 ds := by rfl) : OpS K (rSlL K) d0 lo hi (.n (.lst (cutD ds lo hi))) := fun G H v s a Q q => by
  obtain ⟨p, vs, rfl, h, l⟩ := a.seqL q0
  refine ⟨p, vs, rfl, s.seq h, fun x hx => q _ _ _ (.newH s hx) (.newL s hx ?_)⟩
  unfold cutV cutD
  rw [l.length]
  exact (l.drop _).take _
theorem s_tup {ds : List D} {lo hi : Option Int} : OpS K (rSlA K) (.tup ds) lo hi (.v (.tup (cutD ds lo hi))) := fun G H v s a Q q => by
  cases a with
  | tup h l =>
    refine ⟨_, _, rfl, same_t s h, fun ⟨e1, e2⟩ => ?_, fun _ x hx => ?_⟩
    · rw [l.length] at e1 e2
      have e : cutD ds lo hi = ds := by
        unfold cutD
        rw [e1, e2]
        simp
      rw [e] at q
      exact q _ G H (.refl s) (.v (.tup h l))
    · refine q _ _ _ (.new s hx) (.newT s hx ?_)
      unfold cutV cutD
      rw [l.length]
      exact (l.drop _).take _
theorem ev_revL {d0 : D} {ds : List D} (h : EvD K te env d0) (q0 : isSeq d0 ds := by rfl) : Ev K (tRevL K te) env (.n (.lst ds.reverse)) := fun G0 H0 G H σ S Q q => h.v S fun v G1 H1 l1 a => by
  obtain ⟨p, vs, rfl, h, l⟩ := a.seqL q0
  exact ⟨p, vs, rfl, l1.s.seq h, fun x hx => q _ _ _ (l1.trans (.newH l1.s hx)) ((RAt.newL l1.s hx l.rev).back l1.h)⟩
theorem o_catL {ds es : List D} (hl : ds.length + es.length ≤ 100000) : Op2 K rCat (.lst ds) (.lst es) (.n (.lst (ds ++ es))) := fun G H v w s a b Q q => by
  cases a with
  | lst h l => cases b with
    | lst h' l' => exact ⟨_, _, _, _, rfl, rfl, s _ _ h, s _ _ h', by rw [l.length, l'.length]; exact Nat.le_trans hl (by decide), fun p hp => q _ _ _ (.newH s hp) (.newL s hp (l.app l'))⟩
theorem AtL.rep {G : Hp} {ds : List D} {vs : List V} (l : AtL K G ds vs) : ∀ n : Nat, AtL K G (List.replicate n ds).flatten (List.replicate n vs).flatten
  | 0 => .nil
  | n + 1 => by
    rw [List.replicate_succ, List.replicate_succ, List.flatten_cons, List.flatten_cons]
    exact l.app (AtL.rep l n)
theorem o_repT {ds : List D} {k : Int} (h1 : 1 ≤ k ∧ k ≤ 1000) (hl : ds.length ≤ 1000) : Op2 K (rRepA K) (.tup ds) (.int k) (.v (.tup (List.replicate k.toNat ds).flatten)) := fun G H v w s a b Q q => by
  cases b
  cases a with
  | tup h l =>
    refine ⟨_, k, _, rfl, rfl, same_t s h, h1.1, h1.2, by rw [l.length]; exact hl, fun c => ?_, fun c1 c2 p hp => q _ _ _ (.new s hp) (.newT s hp (l.rep _))⟩
    have e : (List.replicate k.toNat ds).flatten = ds := by
      rcases c with c | c
      · subst c
        cases l
        simp
      · subst c
        simp
    rw [e] at q
    exact q _ G H (.refl s) (.v (.tup h l))
def D.tyV : D → Option Value
  | .non => some (.type "NoneType")
  | .bl _ => some (.type "bool")
  | .int _ => some (.type "int")
  | .str _ => some (.type "str")
  | .lst _ => some (.type "list")
  | _ => none
def D.cv : D → Option Value
  | .ty n => some (.type n)
  | .cls C => some (.ref C)
  | _ => none
theorem c_isi {x c : D} {t u : Value} {b : Bool} (ht : x.tyV = some t) (hu : c.cv = some u) (h : PySem.W.kitOne K t u = some b) : OpC K (rIsi K) [x, c] (.v (.bl b)) := fun G H vs s a Q q => by
  obtain ⟨v, w, rfl, a', a2⟩ := a.two
  replace a := a'
  have hc : ClsV w u := by
    cases a2 with
    | ty => cases hu; exact .ty _
    | cls => cases hu; exact .own _
    | _ => cases hu
  have hx : TyX K H v t := by
    cases a with
    | non => cases ht; exact .base .non
    | bl => cases ht; exact .base (.bl _)
    | int => cases ht; exact .base (.int _)
    | str => cases ht; exact .base (.str _)
    | lst h9 l9 => cases ht; exact .base (.lst (s _ _ h9))
    | _ => cases ht
  exact ⟨v, w, t, u, b, rfl, hc, hx, h, q _ G H (.refl s) (.v .bl)⟩
theorem c_isiT {ds : List D} {c : D} {u : Value} {b : Bool} (hu : c.cv = some u) (h : PySem.W.kitOne K (.type "tuple") u = some b) : OpC K (rIsi K) [.tup ds, c] (.v (.bl b)) := fun G H vs s a Q q => by
  obtain ⟨v, w, rfl, a', a2⟩ := a.two
  replace a := a'
  have hc : ClsV w u := by
    cases a2 with
    | ty => cases hu; exact .ty _
    | cls => cases hu; exact .own _
    | _ => cases hu
  have hx : TyX K H v (.type "tuple") := by
    cases a with
    | tup h l =>
      rcases same_t s h with (h | ⟨o, h⟩) | ⟨o, its, n, h, hc, _⟩
      · exact .base (.tup h)
      · exact .fTuple h
      · exact .kTuple h hc
  exact ⟨v, w, _, u, b, rfl, hc, hx, h, q _ G H (.refl s) (.v .bl)⟩
end
end Pd

namespace Pd
open PySem L2
section
variable {K : PySem.W.Frag} {G0 H0 G H G' H' : Hp} {σ : L2.St} {env : Env} {E : XK} {R : Out → Prop} {te ta tb ty tv : TE}
/-- a thing beside the slots changes: it was not there at first, and nothing settled leans on it -/
theorem Sta.mutX {p : Addr} {o : HO} (S : Sta K G0 H0 G H σ env) (h0 : H0 p = none) (g : G p = none) (ne : ∀ (i : Nat) (u : OO), env[i]? = some (.own u) → σ[i]? ≠ some (some (.ref p))) : Sta K G0 H0 G (upd H p o) σ env := by
  refine ⟨S.le.mut h0 g, S.len, fun j b eb => ?_, S.dj⟩
  obtain ⟨x, g1, g2⟩ := S.at_ j b eb
  refine ⟨x, g1, ?_⟩
  cases g2 with
  | no => exact .no
  | val h => exact .val h
  | own a1 a2 a3 a4 => exact .own (by rw [upd_ne (fun z => ne j _ eb (by rw [g1, z]))]; exact a1) a2 a3 a4
theorem cut_same {H : Hp} {x : Addr} : cutH H x x = none := if_pos rfl
theorem cut_ne {H : Hp} {x b : Addr} (h : b ≠ x) : cutH H x b = H b := if_neg h
/-- the reading of an __init__'s body from what it comes to -/
theorem init_of (no : List B) {C : Addr} {Rl : List D → List (Str × D) → Prop} {N : List Str} {n : Nat} {t : TS} {vs : List V} {H : Hp} {Q : VK} {E0 : XK} (h : spI K C (n + 1) Rl vs H Q E0)
    (k : ∀ ds fs, ds.length = n → Rl ds fs → ∀ x, Run K E0 t (.own (.ins x C []) :: ds.map B.val ++ no) (fun o => ∃ e, o = .nx e ∧ e[0]? = some (.own (.ins x C fs)))) (hN : n + 1 ≤ N.length := by decide) (hno : no = List.replicate (N.length - (n + 1)) .no := by rfl) : t { nx := fun _ H' => Q .non H', rt := Q } (L2.start N vs) H := by
  obtain ⟨x, dx, ws, G, ds, fs, rfl, hx, gx, s, a, hl, hr, q⟩ := h
  subst hno
  replace hl : ds.length = n := by omega
  have sc : Same G (cutH H x) := fun b o e => by
    have : b ≠ x := fun z => by rw [z, gx] at e; cases e
    rw [cut_ne this]
    exact s b o e
  -- the state without self, then self as one's own
  have S0 := sta_start (N := (N.drop 1)) sc a (by rw [List.length_drop, hl]; omega)
  have S : Sta K G (cutH H x) G H (L2.start N (.ref x :: ws)) (.own (.ins x C []) :: ds.map B.val ++ List.replicate (N.length - (n + 1)) .no) := by
    have es : L2.start N (.ref x :: ws) = some (.ref x) :: L2.start (N.drop 1) ws := by
      unfold L2.start
      rw [List.map_cons, List.cons_append, List.length_cons, List.length_drop, show N.length - (ws.length + 1) = N.length - 1 - ws.length by omega]
    have ee : (B.own (.ins x C []) :: ds.map B.val ++ List.replicate (N.length - (n + 1)) B.no) = B.own (.ins x C []) :: (ds.map B.val ++ List.replicate ((N.drop 1).length - ds.length) B.no) := by
      rw [List.cons_append, List.length_drop, hl, show N.length - (n + 1) = N.length - 1 - n by omega]
    rw [es, ee]
    have noown : ∀ (i : Nat) (o : OO), (ds.map B.val ++ List.replicate ((N.drop 1).length - ds.length) B.no)[i]? ≠ some (.own o) := fun i o z => by
      have m := List.mem_of_getElem? z
      rcases List.mem_append.mp m with m | m
      · obtain ⟨d, _, e⟩ := List.mem_map.mp m
        cases e
      · cases (List.mem_replicate.mp m).2
    refine ⟨⟨Same.refl _, fun b o e => ?_, s, fun _ _ _ h => h⟩, by rw [List.length_cons, List.length_cons, S0.len], fun i b e => ?_, fun i j l o o' e1 e2 e3 e4 => ?_⟩
    · have : b ≠ x := fun z => by rw [z, cut_same] at e; cases e
      rw [cut_ne this] at e
      exact e
    · match i, e with
      | 0, e =>
        cases e
        exact ⟨_, rfl, .own hx (.ins .nil) gx cut_same⟩
      | i + 1, e =>
        obtain ⟨y, y1, y2⟩ := S0.at_ i b e
        refine ⟨y, y1, ?_⟩
        cases y2 with
        | no => exact .no
        | val h => exact .val h
        | own a1 a2 a3 a4 => exact (noown i _ e).elim
    · match i, j, e1, e2 with
      | 0, 0, _, _ => rfl
      | 0, j + 1, _, e2 => exact (noown j o' e2).elim
      | i + 1, _, e1, _ => exact (noown i o e1).elim
  refine k ds fs hl hr x G (cutH H x) G H _ S _ fun o ⟨e, ho, he⟩ => ?_
  subst ho
  intro G2 H2 σ2 S2
  obtain ⟨l, u, f1, f2, f3, f4, f5⟩ := S2.own he
  have ho := f3
  cases ho with
  | ins l =>
    refine q (upd G2 x _) H2 (S2.le.g.trans (same_upd f4)) (fun b o e => ?_) (fun b o ne e => ?_) (fun b o e ne g => ?_) (f3.close f4)
    · by_cases z : b = x
      · subst z
        rw [upd_same] at e
        rw [f2]
        exact e
      · rw [upd_ne z] at e
        exact S2.s b o e
    · exact S2.le.h b o (by rw [cut_ne ne]; exact e)
    · rw [upd_ne ne]
      exact S2.le.n b o (by rw [cut_ne ne]; exact e) g
end
end Pd

namespace Pd
open PySem L2
abbrev Edge := Int × Int × Int
abbrev encE (e : Edge) : D := .tup [.int e.1, .int e.2.1, .int e.2.2]
def kE (n l : Int) : List Key := [.inl n, .inl l]
theorem kE_inj {a b c d : Int} : kE a b = kE c d ↔ a = c ∧ b = d := by
  unfold kE
  constructor
  · intro h
    injection h with h1 h2
    injection h1 with h1
    injection h2 with h2 _
    injection h2 with h2
    exact ⟨h1, h2⟩
  · rintro ⟨rfl, rfl⟩
    rfl
abbrev Tab := List (List Key × List Int)
def addG : Tab → Edge → Tab
  | [], e => [(kE e.1 e.2.1, [e.2.2])]
  | p :: r, e => if p.1 = kE e.1 e.2.1 then (p.1, p.2 ++ [e.2.2]) :: r else p :: addG r e
def gOf : Tab → List Key → List Int
  | [], _ => []
  | p :: r, k => if p.1 = k then p.2 else gOf r k
def goalsOf (es : List Edge) : Tab := es.foldl addG []
def goalsD (es : List Edge) : List (List Key × D) := (goalsOf es).map fun p => (p.1, .lst (p.2.map D.int))
theorem goalsOf_snoc (es : List Edge) (e : Edge) : goalsOf (es ++ [e]) = addG (goalsOf es) e := by
  unfold goalsOf
  rw [List.foldl_append]
  rfl
theorem gOf_add (e : Edge) (k : List Key) : ∀ acc : Tab, gOf (addG acc e) k = if kE e.1 e.2.1 = k then gOf acc k ++ [e.2.2] else gOf acc k
  | [] => by
    show (if kE e.1 e.2.1 = k then [e.2.2] else []) = _
    by_cases h : kE e.1 e.2.1 = k
    · rw [if_pos h, if_pos h]; rfl
    · rw [if_neg h, if_neg h]; rfl
  | p :: r => by
    unfold addG
    by_cases h : p.1 = kE e.1 e.2.1
    · rw [if_pos h]
      show (if p.1 = k then p.2 ++ [e.2.2] else gOf r k) = _
      by_cases h2 : p.1 = k
      · rw [if_pos h2, if_pos (h.symm.trans h2)]
        show _ = (if p.1 = k then p.2 else gOf r k) ++ _
        rw [if_pos h2]
      · rw [if_neg h2, if_neg (fun z => h2 (h.trans z))]
        show _ = (if p.1 = k then p.2 else gOf r k)
        rw [if_neg h2]
    · rw [if_neg h]
      show (if p.1 = k then p.2 else gOf (addG r e) k) = if _ then (if p.1 = k then p.2 else gOf r k) ++ [e.2.2] else (if p.1 = k then p.2 else gOf r k)
      by_cases h2 : p.1 = k
      · rw [if_pos h2, if_pos h2, if_neg (fun z => h (h2.trans z.symm))]
      · rw [if_neg h2, if_neg h2]
        exact gOf_add e k r
theorem gOf_goals (es : List Edge) (n l : Int) : gOf (goalsOf es) (kE n l) = (es.filter fun e => decide (e.1 = n ∧ e.2.1 = l)).map fun e => e.2.2 := by
  have : ∀ (es : List Edge) (acc : Tab), gOf (es.foldl addG acc) (kE n l) = gOf acc (kE n l) ++ (es.filter fun e => decide (e.1 = n ∧ e.2.1 = l)).map fun e => e.2.2 := by
    intro es
    induction es with
    | nil => intro acc; simp
    | cons e es ih =>
      intro acc
      rw [List.foldl_cons, ih, gOf_add, List.filter_cons]
      by_cases h : e.1 = n ∧ e.2.1 = l
      · rw [if_pos (kE_inj.mpr h), if_pos (decide_eq_true h), List.map_cons, List.append_assoc]
        rfl
      · rw [if_neg (fun z => h (kE_inj.mp z)), if_neg (by rw [decide_eq_false h]; exact Bool.false_ne_true)]
  have h := this es []
  exact h
theorem addG_length : ∀ (acc : Tab) (e : Edge), (addG acc e).length ≤ acc.length + 1
  | [], e => Nat.le_refl _
  | p :: r, e => by
    unfold addG
    split
    · rw [List.length_cons, List.length_cons]; omega
    · rw [List.length_cons, List.length_cons]
      have := addG_length r e
      omega
theorem addG_each {n : Nat} : ∀ {acc : Tab} {e : Edge}, (∀ p ∈ acc, p.2.length ≤ n) → ∀ p ∈ addG acc e, p.2.length ≤ n + 1
  | [], e, _, p, hp => by
    rw [List.mem_singleton.mp hp]
    show 1 ≤ n + 1
    omega
  | q :: r, e, h, p, hp => by
    unfold addG at hp
    split at hp
    · rcases List.mem_cons.mp hp with z | z
      · rw [z]
        have := h q List.mem_cons_self
        rw [List.length_append]
        show q.2.length + 1 ≤ n + 1
        omega
      · exact Nat.le_succ_of_le (h p (List.mem_cons_of_mem _ z))
    · rcases List.mem_cons.mp hp with z | z
      · rw [z]
        exact Nat.le_succ_of_le (h q List.mem_cons_self)
      · exact addG_each (fun p hp => h p (List.mem_cons_of_mem _ hp)) p z
theorem goalsOf_each (es : List Edge) : ∀ p ∈ goalsOf es, p.2.length ≤ es.length := by
  unfold goalsOf
  have : ∀ (es : List Edge) (acc : Tab) (n : Nat), (∀ p ∈ acc, p.2.length ≤ n) → ∀ p ∈ es.foldl addG acc, p.2.length ≤ n + es.length := by
    intro es
    induction es with
    | nil => intro acc n h; exact h
    | cons e es ih =>
      intro acc n h p hp
      have := ih (addG acc e) (n + 1) (addG_each h) p hp
      rw [List.length_cons]
      omega
  intro p hp
  have := this es [] 0 (fun p h => by cases h) p hp
  omega
theorem goalsOf_length (es : List Edge) : (goalsOf es).length ≤ es.length := by
  unfold goalsOf
  have : ∀ (es : List Edge) (acc : Tab), (es.foldl addG acc).length ≤ acc.length + es.length := by
    intro es
    induction es with
    | nil => intro acc; exact Nat.le_refl _
    | cons e es ih =>
      intro acc
      have h1 := ih (addG acc e)
      have h2 := addG_length acc e
      rw [List.foldl_cons, List.length_cons]
      omega
  have := this es []
  simpa using this
/-- an entry's list: one's own, not yet settled -/
def GE (G H0 H : Hp) (d x : Addr) (p : List Key × List Int) (q : List Key × V) : Prop := p.1 = q.1 ∧ ∃ l, q.2 = .ref l ∧ H l = some (.lst (p.2.map V.int)) ∧ G l = none ∧ H0 l = none ∧ l ≠ d ∧ l ≠ x
section
variable {G H0 H H' : Hp} {d x : Addr}
/-- the key is there: its list grows -/
theorem gl_find {k : List Key} {v : V} {acc : Tab} {kvs : List (List Key × V)} (h : Paired (GE G H0 H d x) acc kvs) (nd : (kvs.map (·.2)).Nodup) (e : Edge) (hk : kE e.1 e.2.1 = k) (hv : valV kvs k = some v) :
    ∃ l ns, (k, ns) ∈ acc ∧ v = .ref l ∧ H l = some (.lst (ns.map V.int)) ∧ G l = none ∧ H0 l = none ∧ l ≠ d ∧ l ≠ x ∧ (V.ref l) ∈ kvs.map (·.2) ∧ ∀ H', H' l = some (.lst ((ns ++ [e.2.2]).map V.int)) → (∀ b, b ≠ l → H' b = H b) → Paired (GE G H0 H' d x) (addG acc e) kvs := by
  induction h with
  | nil => cases hv
  | @cons p q acc kvs h t ih =>
    obtain ⟨h1, l, h2, h3, h4, h5, h6, h7⟩ := h
    rw [List.map_cons, List.nodup_cons] at nd
    have off : ∀ {H' : Hp} {l : Addr}, (∀ b, b ≠ l → H' b = H b) → (V.ref l ∉ kvs.map (·.2)) → Paired (GE G H0 H' d x) acc kvs := by
      intro H' l hb hn
      clear ih hv
      revert hn
      induction t with
      | nil => intro _; exact .nil
      | @cons p2 q2 acc kvs h t ih =>
        intro hn
        rw [List.map_cons, List.mem_cons, not_or] at hn
        obtain ⟨g1, m, g2, g3, g4⟩ := h
        refine .cons ⟨g1, m, g2, ?_, g4⟩ (ih ?_ hn.2)
        · rw [hb m (fun z => hn.1 (by rw [g2, z]))]
          exact g3
        · refine ⟨fun z => nd.1 (List.mem_cons_of_mem _ z), (List.nodup_cons.mp nd.2).2⟩
    by_cases c : q.1 = k
    · have : v = q.2 := by
        unfold valV at hv
        rw [List.find?_cons, decide_eq_true c] at hv
        exact (Option.some.inj hv).symm
      subst this
      refine ⟨l, p.2, by rw [← c, ← h1]; exact List.mem_cons_self, h2, h3, h4, h5, h6, h7, by rw [← h2]; exact List.mem_cons_self, fun H' a b => ?_⟩
      unfold addG
      rw [if_pos (h1.trans (c.trans hk.symm))]
      exact .cons ⟨h1, l, h2, a, h4, h5, h6, h7⟩ (off b (by rw [← h2]; exact nd.1))
    · have hv2 : valV kvs k = some v := by
        unfold valV at hv ⊢
        rw [List.find?_cons, decide_eq_false c] at hv
        exact hv
      obtain ⟨l2, ns, g0, g1, g2, g3, g4, g5, g6, g7, g8⟩ := ih nd.2 hv2
      refine ⟨l2, ns, List.mem_cons_of_mem _ g0, g1, g2, g3, g4, g5, g6, List.mem_cons_of_mem _ g7, fun H' a b => ?_⟩
      unfold addG
      rw [if_neg (fun z => c (h1.symm.trans (z.trans hk)))]
      refine .cons ⟨h1, l, h2, ?_, h4, h5, h6, h7⟩ (g8 H' a b)
      rw [b l (fun z => nd.1 (by rw [h2, z]; exact g7))]
      exact h3
/-- the key is not there -/
theorem gl_none {k : List Key} {acc : Tab} {kvs : List (List Key × V)} (h : Paired (GE G H0 H d x) acc kvs) (e : Edge) (hk : kE e.1 e.2.1 = k) (hv : valV kvs k = none) (z : V) : addG acc e = acc ++ [(k, [e.2.2])] ∧ putK kvs k z = kvs ++ [(k, z)] := by
  have h1 : addG acc e = acc ++ [(k, [e.2.2])] := by
    induction h with
    | nil => rw [← hk]; rfl
    | @cons p q acc kvs h t ih =>
      unfold valV at hv ih
      rw [List.find?_cons] at hv
      by_cases c : q.1 = k
      · rw [decide_eq_true c] at hv
        cases hv
      · rw [decide_eq_false c] at hv
        unfold addG
        rw [if_neg (fun w => c (h.1.symm.trans (w.trans hk))), ih hv]
        rfl
  refine ⟨h1, ?_⟩
  unfold putK
  rw [valV_any, hv]
  rfl
theorem GE.mono {G' : Hp} {acc : Tab} {kvs : List (List Key × V)} (h : Paired (GE G H0 H d x) acc kvs) (s : Same H H') (n : ∀ a o, H a = some o → G a = none → G' a = none) : Paired (GE G' H0 H' d x) acc kvs :=
  Paired.mapP h fun _ _ ⟨h1, l, h2, h3, h4, h5⟩ => ⟨h1, l, h2, s _ _ h3, n _ _ h3 h4, h5⟩
end
theorem AtP.swap {K : PySem.W.Frag} {G : Hp} {f : Str} {dd : D} {a : Addr} (h : At K G dd (.ref a)) : ∀ {fs : List (Str × D)} {gs : List (Str × V)}, AtP K G (putD f (.cls a) fs) gs → AtP K G (putD f dd fs) gs
  | [], _, .cons h1 t => by
    cases h1
    exact .cons h t
  | (g, e) :: r, gs, l => by
    unfold putD at l ⊢
    by_cases c : g = f
    · rw [if_pos c] at l ⊢
      cases l with
      | cons h1 t => cases h1; exact .cons h t
    · rw [if_neg c] at l ⊢
      cases l with
      | cons h1 t => exact .cons h1 (AtP.swap h t)
theorem putD_lookup (f g : Str) (d : D) : ∀ fs : List (Str × D), (putD f d fs).lookup g = if g = f then some d else fs.lookup g
  | [] => by
    unfold putD
    rw [List.lookup_cons]
    by_cases c : g = f
    · have : (g == f) = true := by simp [c]
      rw [this, if_pos c]
    · have : (g == f) = false := by simp [c]
      rw [this, if_neg c]
  | (h, e) :: r => by
    unfold putD
    by_cases c : h = f
    · rw [if_pos c, List.lookup_cons, List.lookup_cons]
      by_cases c2 : g = f
      · have : (g == h) = true := by rw [c2, c]; simp
        rw [this, if_pos c2]
      · have : (g == h) = false := by rw [c]; simp [c2]
        rw [this, if_neg c2]
    · rw [if_neg c, List.lookup_cons, List.lookup_cons, putD_lookup f g d r]
      by_cases c2 : g = f
      · have : (g == h) = false := by rw [c2]; simp; exact fun z => c z.symm
        rw [this, if_pos c2]
      · rw [if_neg c2, if_neg c2]
/-- G with what stands in H at the places of p -/
def settle (G H : Hp) (p : Addr → Bool) : Hp := fun a => if p a = true then H a else G a
section
variable {K : PySem.W.Frag} {env : Env} {E : XK}
theorem Sta.settle {G0 H0 G H : Hp} {σ : L2.St} (S : Sta K G0 H0 G H σ env) (p : Addr → Bool) (hg : ∀ a, p a = true → G a = none) (h0 : ∀ a, p a = true → H0 a = none) (ne : ∀ (i : Nat) (u : OO) (a : Addr), env[i]? = some (.own u) → p a = true → σ[i]? ≠ some (some (.ref a))) :
    Same G (Pd.settle G H p) ∧ Sta K G0 H0 (Pd.settle G H p) H σ env := by
  have ex : Same G (Pd.settle G H p) := fun b o e => by
    unfold Pd.settle
    split
    · rename_i q
      rw [hg b q] at e
      cases e
    · exact e
  refine ⟨ex, ⟨S.le.g.trans ex, S.le.h, fun b o e => ?_, fun a o e1 e2 => ?_⟩, S.len, fun i b e => ?_, S.dj⟩
  · unfold Pd.settle at e
    split at e
    · exact e
    · exact S.s b o e
  · unfold Pd.settle
    split
    · rename_i q
      rw [h0 a q] at e1
      cases e1
    · exact S.le.n a o e1 e2
  · obtain ⟨x, g1, g2⟩ := S.at_ i b e
    refine ⟨x, g1, ?_⟩
    cases g2 with
    | no => exact .no
    | val h => exact .val (h.mono ex)
    | own a1 a2 a3 a4 =>
      refine .own a1 (a2.mono ex) ?_ a4
      unfold Pd.settle
      split
      · rename_i q
        exact (ne i _ _ e q g1).elim
      · exact a3
theorem atP_tab {G H H0 : Hp} {d x : Addr} {acc : Tab} {kvs : List (List Key × V)} (h : Paired (GE G H0 H d x) acc kvs) {G' : Hp} (s : ∀ a, (V.ref a) ∈ kvs.map (·.2) → G' a = H a) : AtP K G' (acc.map fun p => (p.1, D.lst (p.2.map D.int))) kvs := by
  induction h with
  | nil => exact .nil
  | @cons p q acc kvs h t ih =>
    obtain ⟨h1, l, h2, h3, _⟩ := h
    obtain ⟨qk, qv⟩ := q
    cases h2
    cases h1
    refine .cons (.lst ?_ (.of_map (fun _ => .int) _)) (ih fun a ha => s a (List.mem_cons_of_mem _ ha))
    rw [s l List.mem_cons_self]
    exact h3
/-- self._goals = {}, and the loop over the edges -/
theorem net_goals {x C : Addr} {fs : List (Str × D)} {es : List Edge} {te tt ta tl : TE} (h0 : env[0]? = some (.own (.ins x C fs))) (own1 : ∀ (i : Nat) (o : OO), env[i]? = some (.own o) → i = 0) (he : fs.lookup ("edges" : Str) = some (.tup (es.map encE))) (hl : 9 ≤ env.length)
    (hz : es.length ≤ 100000) (c : Cls K C) (n1 : NoAttr K C "edges") (n2 : NoAttr K C "_goals") (hfs : fs.length < 900) :
    Run K E (tSeq (sFld K (tVar 0) tDNewT "_goals") (tFor (iTup K (tFld K (tVar 0) "edges")) (gTup K 3 (gCons (gName 6) (gCons (gName 7) (gCons (gName 8) gNil))))
      (tDrop (tBM K "list" rAppend (tDSetT (tFld K (tVar 0) "_goals") (tTup (tCons (tVar 6) (tCons (tVar 7) tNil))) (tLst tNil)) (tCons (tVar 8) tNil))))) env
      (fun o => ∃ e, o = .nx e ∧ e[0]? = some (.own (.ins x C (putD "_goals" (.dT (goalsD es)) fs)))) := fun G0 H0 G H σ S Dn fin => by
  obtain ⟨l0, u0, a1, a2, a3, a4, a5⟩ := S.own h0
  cases a3 with
  | @ins _ _ dx _ gs a3 =>
  -- self._goals = {}
  intro d hd
  have dx_ne : d ≠ x := fun z => by rw [z, a2] at hd; cases hd
  have hd0 : H0 d = none := S.le.h.free hd
  have gd : G d = none := S.s.free hd
  refine ⟨_, a1, x, C, dx, gs, rfl, by rw [upd_ne dx_ne.symm]; exact a2, c, n2, by rw [a3.length]; omega, ?_⟩
  have S1 : Sta K G0 H0 G (upd H d (.dT [])) σ env := S.mono (.newH S.s hd)
  have S2 := S1.mut (o' := .ins x C (putD "_goals" (.cls d) fs)) (h' := .ins C dx (putF "_goals" (.ref d) gs)) h0 a1 (.ins (AtP.put .cls a3))
  have l0lt : 0 < env.length := by omega
  let fs1 := putD "_goals" (.cls d) fs
  -- the loop
  have fe : fs1.lookup ("edges" : Str) = some (.tup (es.map encE)) := by
    show (putD "_goals" (.cls d) fs).lookup _ = _
    rw [putD_lookup, if_neg (by decide +kernel)]
    exact he
  have fg : fs1.lookup ("_goals" : Str) = some (.cls d) := by
    show (putD "_goals" (.cls d) fs).lookup _ = _
    rw [putD_lookup, if_pos rfl]
  dsimp only
  refine (i_tup (ev_fldO (env := env.set 0 (.own (.ins x C fs1))) (by rw [List.getElem?_set_self l0lt]) c n1 fe)) G0 H0 G _ σ S2 _ fun J G1 H1 l1 ⟨Gp, Y, wk, gp, yy⟩ => ?_
  have S3 := S2.mono l1
  have l01 : Le G0 H0 G1 H1 := S3.le
  have hd1 : H1 d = some (.dT []) := l1.h _ _ (by rw [upd_ne dx_ne, upd_same])
  have gd1 : G1 d = none := l1.n _ _ (by rw [upd_ne dx_ne, upd_same]) gd
  refine for_it wk (fun i σ H => ∃ G e kvs, Sta K G1 H0 G H σ e ∧ e[0]? = some (.own (.ins x C fs1)) ∧ (∀ (i : Nat) (o : OO), e[i]? = some (.own o) → i = 0) ∧ e.length = env.length ∧ H d = some (.dT kvs) ∧ G d = none ∧ kvs.length ≤ i ∧ (kvs.map (·.2)).Nodup ∧
      Paired (GE G H0 H d x) (goalsOf (es.take i)) kvs)
    ⟨G1, env.set 0 (.own (.ins x C fs1)), [], S3.rebase, by rw [List.getElem?_set_self l0lt], fun i o e => ?_, List.length_set, hd1, gd1, Nat.le_refl _, List.nodup_nil, .nil⟩ (fun i σ H _ ⟨G, e, kvs, S, _⟩ => gp H (S.le.g.trans S.s)) ?_ ?_
  · by_cases z : i = 0
    · exact z
    · rw [List.getElem?_set_ne (fun q => z q.symm)] at e
      exact own1 i o e
  · rintro i v σ4 H4 H5 hlt ⟨G4, e4, kvs, S4, e40, ow, el, hd4, gd4, kl, nd, pr⟩ y
    rw [List.length_map] at hlt
    have ed : (es.map encE)[i]? = some (encE es[i]) := by rw [List.getElem?_map, List.getElem?_eq_getElem hlt]; rfl
    have tk : es.take (i + 1) = es.take i ++ [es[i]] := by rw [List.take_succ, List.getElem?_eq_getElem hlt]; rfl
    obtain ⟨G5, l5, a5⟩ := yy i _ G4 H4 v H5 ed S4.le.g S4.s y
    generalize es[i] = ee at *
    -- node, letter, goal = edge
    refine (t_tup (n := 3) (.cons t_name (.cons t_name (.cons t_name .nil))) rfl) G1 H0 G5 H5 σ4 v (S4.mono l5) a5 _ fun σ6 S6 _ => ?_
    have e60 : (((e4.set 6 (.val (.int ee.1))).set 7 (.val (.int ee.2.1))).set 8 (.val (.int ee.2.2)))[0]? = some (.own (.ins x C fs1)) := by
      rw [List.getElem?_set_ne (by decide), List.getElem?_set_ne (by decide), List.getElem?_set_ne (by decide)]
      exact e40
    have e66 : (((e4.set 6 (.val (.int ee.1))).set 7 (.val (.int ee.2.1))).set 8 (.val (.int ee.2.2)))[6]? = some (.val (.int ee.1)) := by
      rw [List.getElem?_set_ne (by decide), List.getElem?_set_ne (by decide), List.getElem?_set_self (by omega)]
    have e67 : (((e4.set 6 (.val (.int ee.1))).set 7 (.val (.int ee.2.1))).set 8 (.val (.int ee.2.2)))[7]? = some (.val (.int ee.2.1)) := by
      rw [List.getElem?_set_ne (by decide), List.getElem?_set_self (by rw [List.length_set]; omega)]
    have e68 : (((e4.set 6 (.val (.int ee.1))).set 7 (.val (.int ee.2.1))).set 8 (.val (.int ee.2.2)))[8]? = some (.val (.int ee.2.2)) := by
      rw [List.getElem?_set_self (by rw [List.length_set, List.length_set]; omega)]
    have ow6 : ∀ (i : Nat) (o : OO), (((e4.set 6 (.val (.int ee.1))).set 7 (.val (.int ee.2.1))).set 8 (.val (.int ee.2.2)))[i]? = some (.own o) → i = 0 := by
      intro i o z
      have low : ∀ (e : Env) (j : Nat) (d : D), (∀ (i : Nat) (o : OO), e[i]? = some (.own o) → i = 0) → ∀ (i : Nat) (o : OO), (e.set j (.val d))[i]? = some (.own o) → i = 0 := by
        intro e j d h i o z
        by_cases q : j = i
        · subst q
          by_cases w : j < e.length
          · rw [List.getElem?_set_self w] at z; cases z
          · rw [List.getElem?_eq_none (by rw [List.length_set]; omega)] at z; cases z
        · rw [List.getElem?_set_ne q] at z
          exact h i o z
      exact low _ _ _ (low _ _ _ (low _ _ _ ow)) i o z
    generalize hen : (((e4.set 6 (.val (.int ee.1))).set 7 (.val (.int ee.2.1))).set 8 (.val (.int ee.2.2))) = e6 at *
    have el6 : e6.length = env.length := by rw [← hen, List.length_set, List.length_set, List.length_set]; exact el
    have hd5 := l5.h _ _ hd4
    have gd5 := l5.n _ _ hd4 gd4
    have pr5 := GE.mono pr l5.h l5.n
    -- self._goals.setdefault((node, letter), [])
    unfold tDrop tBM tDSetT
    refine (ev_fldO e60 c n2 fg).v S6 fun w G7 H7 l7 a7 => ?_
    cases a7
    have hd7 := l7.h _ _ hd5
    have S7 := S6.mono l7
    refine ⟨d, rfl, .inr ⟨kvs, .inl hd7⟩, ?_⟩
    obtain ⟨v6, s66, i66⟩ := S7.val e66
    obtain ⟨v7, s67, i67⟩ := S7.val e67
    obtain ⟨v8, s68, i68⟩ := S7.val e68
    cases i66; cases i67; cases i68
    refine ⟨_, s66, _, s67, by show 2 ≤ sizeLine; decide, fun b hb => ⟨Nat.zero_le _, fun p2 hp2 => ?_⟩⟩
    have bd : d ≠ b := ne_of_none hd7 hb
    have hbp : b ≠ p2 := fun z => by rw [← z, upd_same] at hp2; cases hp2
    have hdp : d ≠ p2 := fun z => by rw [← z, upd_ne bd, hd7] at hp2; cases hp2
    have l8 : Le G7 H7 G7 (upd (upd H7 b (.tup [.int ee.1, .int ee.2.1])) p2 (.lst [])) := (Le.newH S7.s hb).trans (.newH (S7.s.trans (same_upd hb)) hp2)
    have S8 := S7.mono l8
    have hd8 := l8.h _ _ hd7
    have gd7 := l7.n _ _ hd5 gd5
    have pr8 := GE.mono (GE.mono pr5 l7.h l7.n) l8.h l8.n
    generalize hH8 : upd (upd H7 b (.tup [.int ee.1, .int ee.2.1])) p2 (.lst []) = H8 at *
    have hb8 : H8 b = some (.tup ((kE ee.1 ee.2.1).map kV)) := by rw [← hH8, upd_ne hbp, upd_same]; rfl
    have h0d : H0 d = none := hd0
    have lno : ∀ (l : Addr), l ≠ x → ∀ {o : HO}, True → ∀ (i : Nat) (u : OO), e6[i]? = some (.own u) → σ6[i]? ≠ some (some (.ref l)) := fun l lx o _ i u z q => by
      have i0 := ow6 i u z
      subst i0
      rw [e60] at z
      cases z
      obtain ⟨l', h, f1, f2, f3, _⟩ := S8.own e60
      rw [f1] at q
      cases q
      cases f3
      exact lx rfl
    refine ⟨kvs, kE ee.1 ee.2.1, b, hd8, rfl, hb8, by rw [sizeLine_eq]; omega, fun w hw => ?_, fun hw => ?_⟩
    · obtain ⟨l, ns, q1, rfl, q2, q3, q4, q5, q6, q7, q8⟩ := gl_find pr8 nd ee rfl hw
      have qn : ns.length ≤ i := Nat.le_trans (goalsOf_each _ _ q1) (by rw [List.length_take]; exact Nat.min_le_left _ _)
      refine ⟨.inl ⟨rfl, _, .inl (.inl q2)⟩, _, s68, l, _, _, rfl, rfl, q2, by rw [List.length_map, sizeLine_eq]; omega, ?_⟩
      refine ⟨G7, e6, kvs, S8.mutX q4 q3 (lno l q6 (o := .lst []) trivial), e60, ow6, el6, by rw [upd_ne q5.symm]; exact hd8, gd7, by omega, nd, ?_⟩
      rw [tk, goalsOf_snoc]
      exact q8 _ (by rw [upd_same, List.map_append]; rfl) fun b hb => upd_ne hb
    · have g7p : G7 p2 = none := S7.s.free ((same_upd hb).free hp2)
      have h7p : H7 p2 = none := (same_upd hb).free hp2
      have h0p : H0 p2 = none := S7.le.h.free h7p
      have p2x : p2 ≠ x := fun z => by
        obtain ⟨l, h, f1, f2, f3, _⟩ := S7.own e60
        cases f3
        rw [z, f2] at h7p
        cases h7p
      have hp8 : H8 p2 = some (.lst []) := by rw [← hH8, upd_same]
      refine ⟨.inl ⟨rfl, [], .inl (.inl (by rw [upd_ne hdp.symm]; exact hp8))⟩, _, s68, p2, [], _, rfl, rfl, by rw [upd_ne hdp.symm]; exact hp8, by rw [sizeLine_eq]; decide, ?_⟩
      have S9 := S8.mutX (o := .dT (putK kvs (kE ee.1 ee.2.1) (.ref p2))) h0d gd7 (lno d dx_ne (o := .lst []) trivial)
      have S10 := S9.mutX (p := p2) (o := .lst ([] ++ [.int ee.2.2])) h0p g7p (lno p2 p2x (o := .lst []) trivial)
      obtain ⟨t1, t2⟩ := gl_none pr8 ee rfl hw (.ref p2)
      have pin : V.ref p2 ∉ kvs.map (·.2) := by
        intro z
        obtain ⟨⟨k, v⟩, m1, m2⟩ := List.mem_map.mp z
        have : ∀ {acc : Tab} {kvs : List (List Key × V)}, Paired (GE G7 H0 H7 d x) acc kvs → ∀ q ∈ kvs, q.2 ≠ .ref p2 := by
          intro acc kvs h
          induction h with
          | nil => intro q hq; cases hq
          | cons h t ih =>
            intro q hq
            rcases List.mem_cons.mp hq with z | z
            · subst z
              obtain ⟨_, l, g1, g2, _⟩ := h
              intro w
              rw [g1] at w
              cases w
              rw [h7p] at g2
              cases g2
            · exact ih q z
        exact this (GE.mono pr5 l7.h l7.n) _ m1 m2
      refine ⟨G7, e6, putK kvs (kE ee.1 ee.2.1) (.ref p2), S10, e60, ow6, el6, by rw [upd_ne hdp, upd_same], gd7, by rw [t2, List.length_append]; show kvs.length + 1 ≤ i + 1; omega, ?_, ?_⟩
      · rw [t2, List.map_append, List.nodup_append]
        refine ⟨nd, by simp, fun a ha b hb z => ?_⟩
        have hb2 : b = V.ref p2 := by simpa using hb
        subst hb2
        rw [z] at ha
        exact pin ha
      · rw [tk, goalsOf_snoc, t1, t2]
        refine Paired.snoc (Paired.mapP (GE.mono pr5 l7.h l7.n) fun p q ⟨h1, l, h2, h3, h4, h5, h6, h7⟩ => ⟨h1, l, h2, ?_, h4, h5, h6, h7⟩) ⟨rfl, p2, rfl, by rw [upd_same]; rfl, g7p, h0p, hdp.symm, p2x⟩
        rw [upd_ne (ne_of_none h3 h7p), upd_ne h6]
        exact l8.h _ _ h3
  · rintro σ4 H4 ⟨G4, e4, kvs, S4, e40, ow, el, hd4, gd4, kl, nd, pr⟩
    rw [List.length_map, List.take_length] at pr
    let p : Addr → Bool := fun a => decide (a = d) || decide (V.ref a ∈ kvs.map (·.2))
    have each : ∀ a, V.ref a ∈ kvs.map (·.2) → ∃ ns, H4 a = some (.lst ns) ∧ G4 a = none ∧ H0 a = none ∧ a ≠ x := by
      have : ∀ {acc : Tab} {kvs : List (List Key × V)}, Paired (GE G4 H0 H4 d x) acc kvs → ∀ a, V.ref a ∈ kvs.map (·.2) → ∃ ns, H4 a = some (.lst ns) ∧ G4 a = none ∧ H0 a = none ∧ a ≠ x := by
        intro acc kvs h
        induction h with
        | nil => intro a ha; cases ha
        | cons h t ih =>
          intro a ha
          rw [List.map_cons] at ha
          rcases List.mem_cons.mp ha with z | z
          · obtain ⟨_, l, g1, g2, g3, g4, _, g5⟩ := h
            rw [g1] at z
            cases z
            exact ⟨_, g2, g3, g4, g5⟩
          · exact ih a z
      exact this pr
    have pd : p d = true := by show (decide (d = d) || _) = true; rw [decide_eq_true rfl]; rfl
    have pm : ∀ a, V.ref a ∈ kvs.map (·.2) → p a = true := fun a h => by show (decide (a = d) || decide _) = true; rw [decide_eq_true h, Bool.or_true]
    have pc : ∀ a, p a = true → a = d ∨ V.ref a ∈ kvs.map (·.2) := fun a h => by
      rcases Bool.or_eq_true_iff.mp h with h | h
      · exact .inl (of_decide_eq_true h)
      · exact .inr (of_decide_eq_true h)
    obtain ⟨ex, S5⟩ := S4.settle p (fun a h => by
      rcases pc a h with rfl | h
      · exact gd4
      · obtain ⟨_, _, g, _⟩ := each a h; exact g) (fun a h => by
      rcases pc a h with rfl | h
      · exact hd0
      · obtain ⟨_, _, _, g, _⟩ := each a h; exact g) fun i u a z h q => by
      have i0 := ow i u z
      subst i0
      rw [e40] at z
      cases z
      obtain ⟨l, u, f1, f2, f3, _⟩ := S4.own e40
      rw [f1] at q
      cases q
      cases f3
      rcases pc _ h with e | h
      · rw [e, hd4] at f2
        cases f2
      · obtain ⟨_, _, _, _, g⟩ := each _ h
        exact g rfl
    have sd : (Pd.settle G4 H4 p) d = some (.dT kvs) := by
      unfold Pd.settle
      rw [if_pos pd]
      exact hd4
    have ad : At K (Pd.settle G4 H4 p) (.dT (goalsD es)) (.ref d) := .dT sd (atP_tab pr fun a h => by
      unfold Pd.settle
      rw [if_pos (pm a h)])
    obtain ⟨l, u, f1, f2, f3, f4, f5⟩ := S5.own e40
    cases f3 with
    | @ins _ _ dx2 _ gs2 f3 =>
      have S6 := S5.mut (h' := .ins C dx2 gs2) (o' := .ins x C (putD "_goals" (.dT (goalsD es)) fs)) e40 f1 (.ins (AtP.swap ad f3))
      have eq : upd H4 x (HO.ins C dx2 gs2) = H4 := by
        funext b
        unfold upd
        split
        · rename_i z
          rw [z]
          exact f2.symm
        · rfl
      rw [eq] at S6
      exact fin _ ⟨_, rfl, by rw [List.getElem?_set_self (by omega)]⟩ _ H4 σ4 (S6.unbase l01)
end
end Pd

namespace Pd
open PySem L2
section
variable {X : Cx} (K : PySem.W.Frag)
theorem kix_list (h : X.K = K := by rfl) : IxR X (rIxL K) := h ▸ ix_list
theorem kix_tup (h : X.K = K := by rfl) : IxR X (rIxT K) := h ▸ ix_tup
theorem ksl_list (h : X.K = K := by rfl) : SlR X (rSlL K) := h ▸ sl_list
theorem ksl_tupA (h : X.K = K := by rfl) : SlR X (rSlA K) := h ▸ sl_tupA
theorem kop_in_seq (h : X.K = K := by rfl) : OpR X (compareOp .In) (rIn K false) := h ▸ op_in_seq
theorem kop_notIn_seq (h : X.K = K := by rfl) : OpR X (compareOp .NotIn) (rIn K true) := h ▸ op_notIn_seq
theorem kop_catA (h : X.K = K := by rfl) : OpR X (binaryOp .Add) (rCatA K) := h ▸ op_catA
theorem kop_repA (h : X.K = K := by rfl) : OpR X (binaryOp .Mult) (rRepA K) := h ▸ op_repA
theorem kop_eqD (hu : X.A.units + 64 < cLine) (h : X.K = K := by rfl) : OpR X (compareOp .Eq) (rEqD K) := h ▸ op_eqD hu
theorem kop_neD (hu : X.A.units + 64 < cLine) (h : X.K = K := by rfl) : OpR X (compareOp .NotEq) (rNeD K) := h ▸ op_neD hu
theorem kcall_len_seq (h : X.K = K := by rfl) : CallR X (.builtin "len") (fun xs H Q => ∃ p ys, xs = [.ref p] ∧ (SqL K H p ys ∨ SqT K H p ys) ∧ Q (.int ys.length) H) := h ▸ call_len_seq
theorem kcall_list_of (h : X.K = K := by rfl) : CallR X (.type "list") (fun xs H Q => ∃ p ys, xs = [.ref p] ∧ (SqL K H p ys ∨ SqT K H p ys) ∧ ∀ l, H l = none → Q (.ref l) (upd H l (.lst ys))) := h ▸ call_list_of
theorem kcall_tuple_of (h : X.K = K := by rfl) : CallR X (.type "tuple") (fun xs H Q => ∃ p ys, xs = [.ref p] ∧ ((SqL K H p ys ∧ ∀ l, H l = none → Q (.ref l) (upd H l (.tup ys))) ∨ (SqT K H p ys ∧ Q (.ref p) H))) := h ▸ call_tuple_of
theorem kcall_isi (h : X.K = K := by rfl) : CallR X (.builtin "isinstance") (rIsi K) := h ▸ call_isi
theorem kcr_sum (hc : X.calm = true) (h : X.K = K := by rfl) : CallR X (.builtin "sum") (rSum K) := h ▸ cr_sum hc
theorem kcr_all (hc : X.calm = true) (h : X.K = K := by rfl) : CallR X (.builtin "all") (rAll K) := h ▸ cr_all hc
theorem kcr_any (hc : X.calm = true) (h : X.K = K := by rfl) : CallR X (.builtin "any") (rAny K) := h ▸ cr_any hc
theorem kcr_min (hc : X.calm = true) (h : X.K = K := by rfl) : CallR X (.builtin "min") (rMin K) := h ▸ cr_min hc
theorem kcr_max (hc : X.calm = true) (h : X.K = K := by rfl) : CallR X (.builtin "max") (rMax K) := h ▸ cr_max hc
theorem kcr_sortedI (h : X.K = K := by rfl) : CallR X (.builtin "sorted") (rSortedI K) := h ▸ cr_sortedI
theorem kpi_list {tg l : Expr} {tl : TE} (hl : PE X l tl) (h : X.K = K := by rfl) : PI X tg l (iList K tl) := h ▸ pi_list hl
theorem kpi_tup {tg l : Expr} {tl : TE} (hl : PE X l tl) (h : X.K = K := by rfl) : PI X tg l (iTup K tl) := h ▸ pi_tup hl
theorem kpe_fld {e : Expr} {f : Str} {pos : Pos} {ta : TE} (he : PE X e ta) (hb : attributeBase e f X.env (eval e X.env) = eval e X.env) (h : X.K = K := by rfl) : PE X (.Attribute e f pos) (tFld K ta f) := h ▸ pe_fld he hb
theorem kpe_revL {e : Expr} {p1 p2 p3 p4 : Pos} {j : Nat} {te : TE} (h : PE X (.Subscript e (.Slice none none (some (.UnaryOp .USub (.Constant (.int 1) j p3) p4)) p2) p1) (tRevL X.K te)) (hk : X.K = K := by rfl) : PE X (.Subscript e (.Slice none none (some (.UnaryOp .USub (.Constant (.int 1) j p3) p4)) p2) p1) (tRevL K te) := hk ▸ h
end
end Pd

namespace Pd
open PySem L2
section
variable {α : Type} (lt : α → α → Bool)
structure Lin : Prop where
  irr : ∀ a, lt a a = false
  tr : ∀ a b c, lt a b = true → lt b c = true → lt a c = true
  tot : ∀ a b, lt a b = false → lt b a = false → a = b
def uins (x : α) : List α → List α
  | [] => [x]
  | y :: r => if lt x y = true then x :: y :: r else if lt y x = true then y :: uins x r else y :: r
def usort (xs : List α) : List α := xs.foldr (uins lt) []
variable {lt}
theorem mem_uins (L : Lin lt) {x a : α} : ∀ {l : List α}, a ∈ uins lt x l ↔ a = x ∨ a ∈ l
  | [] => by simp [uins]
  | y :: r => by
    unfold uins
    split
    · simp
    · rename_i h1
      split
      · rw [List.mem_cons, mem_uins L, List.mem_cons]
        constructor
        · rintro (h | h | h)
          · exact .inr (.inl h)
          · exact .inl h
          · exact .inr (.inr h)
        · rintro (h | h | h)
          · exact .inr (.inl h)
          · exact .inl h
          · exact .inr (.inr h)
      · rename_i h2
        have e : x = y := L.tot x y (by simpa using h1) (by simpa using h2)
        subst e
        constructor
        · exact .inr
        · rintro (h | h)
          · rw [h]; exact List.mem_cons_self
          · exact h
theorem uins_sorted (L : Lin lt) {x : α} : ∀ {l : List α}, l.Pairwise (fun a b => lt a b = true) → (uins lt x l).Pairwise (fun a b => lt a b = true)
  | [], _ => List.pairwise_singleton _ _
  | y :: r, h => by
    obtain ⟨h1, h2⟩ := List.pairwise_cons.mp h
    unfold uins
    split
    · rename_i q
      refine List.pairwise_cons.mpr ⟨fun a ha => ?_, h⟩
      rcases List.mem_cons.mp ha with e | e
      · rw [e]; exact q
      · exact L.tr _ _ _ q (h1 a e)
    · split
      · rename_i q
        refine List.pairwise_cons.mpr ⟨fun a ha => ?_, uins_sorted L h2⟩
        rcases (mem_uins L).mp ha with e | e
        · rw [e]; exact q
        · exact h1 a e
      · exact h
theorem mem_usort (L : Lin lt) {a : α} : ∀ {xs : List α}, a ∈ usort lt xs ↔ a ∈ xs
  | [] => by simp [usort]
  | x :: xs => by
    show a ∈ uins lt x (usort lt xs) ↔ _
    rw [mem_uins L, mem_usort L, List.mem_cons]
theorem usort_sorted (L : Lin lt) : ∀ xs : List α, (usort lt xs).Pairwise (fun a b => lt a b = true)
  | [] => List.Pairwise.nil
  | x :: xs => uins_sorted L (usort_sorted L xs)
theorem us_one (L : Lin lt) : ∀ {xs ys : List α}, xs.Pairwise (fun a b => lt a b = true) → ys.Pairwise (fun a b => lt a b = true) → (∀ a, a ∈ xs ↔ a ∈ ys) → xs = ys
  | [], [], _, _, _ => rfl
  | [], y :: ys, _, _, h => by have := (h y).mpr List.mem_cons_self; cases this
  | x :: xs, [], _, _, h => by have := (h x).mp List.mem_cons_self; cases this
  | x :: xs, y :: ys, h1, h2, h => by
    obtain ⟨a1, a2⟩ := List.pairwise_cons.mp h1
    obtain ⟨b1, b2⟩ := List.pairwise_cons.mp h2
    have nn : ∀ a b, lt a b = true → lt b a = true → False := fun a b p q => by
      have := L.tr a b a p q
      rw [L.irr] at this
      cases this
    have e : x = y := by
      rcases List.mem_cons.mp ((h x).mp List.mem_cons_self) with z | z
      · exact z
      · rcases List.mem_cons.mp ((h y).mpr List.mem_cons_self) with w | w
        · exact w.symm
        · exact (nn _ _ (a1 y w) (b1 x z)).elim
    subst e
    have key : ∀ a, a ∈ xs ↔ a ∈ ys := fun a => by
      constructor
      · intro m
        rcases List.mem_cons.mp ((h a).mp (List.mem_cons_of_mem _ m)) with z | z
        · have := a1 a m
          rw [z, L.irr] at this
          cases this
        · exact z
      · intro m
        rcases List.mem_cons.mp ((h a).mpr (List.mem_cons_of_mem _ m)) with z | z
        · have := b1 a m
          rw [z, L.irr] at this
          cases this
        · exact z
    rw [us_one L a2 b2 key]
theorem usort_of (L : Lin lt) {xs ys : List α} (h1 : xs.Pairwise (fun a b => lt a b = true)) (h : ∀ a, a ∈ xs ↔ a ∈ ys) : xs = usort lt ys := us_one L h1 (usort_sorted L ys) fun a => (h a).trans (mem_usort L).symm
theorem usort_length (L : Lin lt) (xs : List α) : (usort lt xs).length ≤ xs.length := by
  have one : ∀ (x : α) (l : List α), (uins lt x l).length ≤ l.length + 1 := by
    intro x l
    induction l with
    | nil => exact Nat.le_refl _
    | cons y r ih =>
      unfold uins
      split
      · exact Nat.le_refl _
      · split
        · rw [List.length_cons, List.length_cons]; omega
        · rw [List.length_cons]; omega
  induction xs with
  | nil => exact Nat.le_refl _
  | cons x xs ih =>
    have := one x (usort lt xs)
    show (uins lt x (usort lt xs)).length ≤ _
    rw [List.length_cons]
    omega
end
abbrev ltI (a b : Int) : Bool := decide (a < b)
theorem linI : Lin ltI := ⟨fun a => by simp, fun a b c => by simp; omega, fun a b => by simp; omega⟩
abbrev ltE (a b : Edge) : Bool := decide (a.1 < b.1 ∨ (a.1 = b.1 ∧ (a.2.1 < b.2.1 ∨ (a.2.1 = b.2.1 ∧ a.2.2 < b.2.2))))
theorem linE : Lin ltE := by
  refine ⟨fun a => by simp, fun a b c => ?_, fun a b => ?_⟩
  · simp only [decide_eq_true_eq]
    omega
  · simp only [decide_eq_false_iff_not]
    intro h1 h2
    obtain ⟨a1, a2, a3⟩ := a
    obtain ⟨b1, b2, b3⟩ := b
    have e1 : a1 = b1 := by simp only at h1 h2; omega
    have e2 : a2 = b2 := by simp only at h1 h2; omega
    have e3 : a3 = b3 := by simp only at h1 h2; omega
    rw [e1, e2, e3]
def encL (e : Edge) : List Int := [e.1, e.2.1, e.2.2]
theorem encL_inj {a b : Edge} (h : encL a = encL b) : a = b := by
  obtain ⟨a1, a2, a3⟩ := a
  obtain ⟨b1, b2, b3⟩ := b
  unfold encL at h
  simp only [List.cons.injEq, and_true] at h
  rw [h.1, h.2.1, h.2.2]
theorem code_edge {B : Int} {a b : Edge} (ha : TS.Bd B (encL a)) (hb : TS.Bd B (encL b)) (h : TS.code B (encL a) ≤ TS.code B (encL b)) (ne : a ≠ b) : ltE a b = true := by
  rw [decide_eq_true_eq]
  obtain ⟨a1, a2, a3⟩ := a
  obtain ⟨b1, b2, b3⟩ := b
  simp only
  have g1 : a1 ≤ b1 := by
    rcases Int.lt_or_le b1 a1 with c | c
    · have q := TS.code_lt (B := B) (d := b1) (e := a1) (r := [b2, b3]) (q := [a2, a3]) rfl hb.tail ha.tail c
      have h' : TS.code B [a1, a2, a3] ≤ TS.code B [b1, b2, b3] := h
      omega
    · exact c
  by_cases e1 : a1 = b1
  · subst e1
    have h2 : TS.code B [a2, a3] ≤ TS.code B [b2, b3] := by
      have h' : a1 * B ^ 2 + TS.code B [a2, a3] ≤ a1 * B ^ 2 + TS.code B [b2, b3] := h
      omega
    have g2 : a2 ≤ b2 := by
      rcases Int.lt_or_le b2 a2 with c | c
      · have q := TS.code_lt (B := B) (d := b2) (e := a2) (r := [b3]) (q := [a3]) rfl hb.tail.tail ha.tail.tail c
        omega
      · exact c
    by_cases e2 : a2 = b2
    · subst e2
      have h3 : a3 ≤ b3 := by
        have h' : a2 * B ^ 1 + (a3 * B ^ 0 + 0) ≤ a2 * B ^ 1 + (b3 * B ^ 0 + 0) := h2
        have e0 : B ^ 0 = 1 := Int.pow_zero B
        rw [e0] at h'
        omega
      have n3 : a3 ≠ b3 := fun z => ne (by rw [z])
      omega
    · omega
  · omega
section
variable {K : PySem.W.Frag} {env : Env} {ta te ty tv : TE} {P : Program} {w : World} {E : XK} {R : Out → Prop}
theorem AtL.edges {G : Hp} : ∀ {es : List Edge} {vs : List V}, AtL K G (es.map encE) vs → ∃ ks : List (Addr × List Int), vs = ks.map (fun p => V.ref p.1) ∧ ks.map (·.2) = es.map encL ∧ ∀ p ∈ ks, SqT K G p.1 (p.2.map V.int)
  | [], _, .nil => ⟨[], rfl, rfl, fun p h => by cases h⟩
  | e :: es, _, .cons (.tup h l) t => by
    obtain ⟨ks, h1, h2, h3⟩ := AtL.edges t
    refine ⟨(_, encL e) :: ks, by rw [h1]; rfl, by rw [List.map_cons, h2]; rfl, fun p hp => ?_⟩
    rcases List.mem_cons.mp hp with z | z
    · rw [z]
      have : _ = (encL e).map V.int := AtL.ints (ns := encL e) l
      rw [← this]
      exact h
    · exact h3 p z
theorem AtL.of_edges {G : Hp} : ∀ {ks : List (Addr × List Int)} {us : List Edge}, ks.map (·.2) = us.map encL → (∀ p ∈ ks, SqT K G p.1 (p.2.map V.int)) → AtL K G (us.map encE) (ks.map fun p => V.ref p.1)
  | [], [], _, _ => .nil
  | [], u :: us, h, _ => by cases h
  | k :: ks, [], h, _ => by cases h
  | k :: ks, u :: us, h, q => by
    rw [List.map_cons, List.map_cons, List.cons.injEq] at h
    have hk := q k List.mem_cons_self
    rw [h.1] at hk
    exact .cons (.tup hk (.cons .int (.cons .int (.cons .int .nil)))) (AtL.of_edges h.2 fun p hp => q p (List.mem_cons_of_mem _ hp))
/-- sorted(set(edges)), fewer than 64 of them -/
theorem ev_sortSetE {d0 : D} {es : List Edge} {B : Int} (h : EvD K ta env d0) (q0 : isSeq d0 (es.map encE)) (hB : ∀ e ∈ es, (0 ≤ e.1 ∧ e.1 < B) ∧ (0 ≤ e.2.1 ∧ e.2.1 < B) ∧ (0 ≤ e.2.2 ∧ e.2.2 < B)) (hf : es.length < 64) :
    Ev K (tCB (rSortedT K P w) (tCons (tCB (rSetOfT K P w) (tCons ta tNil)) tNil)) env (.n (.lst ((usort ltE es).map encE))) := fun G0 H0 G H σ S Q q => h.v S fun v G1 H1 l1 a => by
  obtain ⟨p, vs, rfl, hs, hl⟩ := a.seqL q0
  obtain ⟨ks, rfl, k2, k3⟩ := AtL.edges hl
  have kl : ks.length < 64 := by
    have := congrArg List.length k2
    rw [List.length_map, List.length_map] at this
    omega
  refine ⟨p, ks, rfl, l1.s.seq hs, fun p hp => same_t l1.s (k3 p hp), kl, fun x L hx sub all => ?_⟩
  have bd : ∀ e ∈ es, TS.Bd B (encL e) := fun e he m hm => by
    obtain ⟨h1, h2, h3⟩ := hB e he
    rcases List.mem_cons.mp hm with z | z
    · rw [z]; exact h1
    · rcases List.mem_cons.mp z with z | z
      · rw [z]; exact h2
      · rw [List.mem_singleton.mp z]; exact h3
  have ofk : ∀ p ∈ ks, ∃ e ∈ es, p.2 = encL e := fun p hp => by
    have : p.2 ∈ es.map encL := by rw [← k2]; exact List.mem_map.mpr ⟨p, hp, rfl⟩
    obtain ⟨e, he, e2⟩ := List.mem_map.mp this
    exact ⟨e, he, e2.symm⟩
  refine ⟨x, L, 3, B, rfl, upd_same, fun p hp => same_t (l1.s.trans (same_upd hx)) (k3 p (sub p hp)), by decide, fun p hp => ?_, fun L' y pm nd few pw hy => ?_⟩
  · obtain ⟨e, he, e2⟩ := ofk p (sub p hp)
    rw [e2]
    exact ⟨rfl, bd e he⟩
  · -- the keys in order are the edges, sorted
    have ofL : ∀ p ∈ L', ∃ e ∈ es, p.2 = encL e := fun p hp => ofk p (sub p (pm.mem_iff.mp hp))
    obtain ⟨us, hu⟩ : ∃ us : List Edge, L'.map (·.2) = us.map encL := by
      clear pw nd few pm hy
      induction L' with
      | nil => exact ⟨[], rfl⟩
      | cons p L' ih =>
        obtain ⟨us, hu⟩ := ih fun p hp => ofL p (List.mem_cons_of_mem _ hp)
        obtain ⟨e, _, e2⟩ := ofL p List.mem_cons_self
        exact ⟨e :: us, by rw [List.map_cons, List.map_cons, hu, e2]⟩
    have um : ∀ e, e ∈ us ↔ e ∈ es := fun e => by
      constructor
      · intro m
        have : encL e ∈ L'.map (·.2) := by rw [hu]; exact List.mem_map.mpr ⟨e, m, rfl⟩
        obtain ⟨p, hp, e2⟩ := List.mem_map.mp this
        obtain ⟨e3, m3, e4⟩ := ofL p hp
        rw [show e = e3 from encL_inj (e2.symm.trans e4)]
        exact m3
      · intro m
        have : encL e ∈ ks.map (·.2) := by rw [k2]; exact List.mem_map.mpr ⟨e, m, rfl⟩
        obtain ⟨p, hp, e2⟩ := List.mem_map.mp this
        have m2 := all p hp
        rw [← (pm.map (·.2)).mem_iff, hu, e2] at m2
        obtain ⟨e3, m3, e4⟩ := List.mem_map.mp m2
        rw [encL_inj e4.symm]
        exact m3
    have up : us.Pairwise (fun a b => ltE a b = true) := by
      rw [hu] at nd
      have pw2 : (L'.map (·.2)).Pairwise (fun a b => TS.code B a ≤ TS.code B b) := List.pairwise_map.mpr pw
      rw [hu, List.pairwise_map] at pw2
      refine List.Pairwise.imp_of_mem (fun {a b} ma mb hab => ?_) (pw2.and (List.pairwise_map.mp nd))
      exact code_edge (bd a ((um a).mp ma)) (bd b ((um b).mp mb)) hab.1 fun z => hab.2 (by rw [z])
    have eu := usort_of linE up um
    have sx : Le G1 H1 G1 (upd H1 x (SetTO P w x L)) := .newH l1.s hx
    refine q _ G1 _ ((l1.trans sx).trans (.newH sx.s hy)) (.n upd_same (.lst ?_) (sx.s.free hy) ((l1.trans sx).h.free hy))
    rw [← eu]
    exact AtL.of_edges hu fun p hp => k3 p (sub p (pm.mem_iff.mp hp))
/-- sorted(set(ints)) -/
theorem ev_sortSetI {d0 : D} {ns : List Int} (h : EvD K ta env d0) (q0 : isSeq d0 (ns.map D.int)) (hf : ns.length < 4000) :
    Ev K (tCB (rSortedSI w) (tCons (tCB (rSetOfI K w) (tCons ta tNil)) tNil)) env (.n (.lst ((usort ltI ns).map D.int))) := fun G0 H0 G H σ S Q q => h.v S fun v G1 H1 l1 a => by
  obtain ⟨p, vs, rfl, hs, hl⟩ := a.seqL q0
  have ev := hl.ints
  subst ev
  refine ⟨p, ns, rfl, l1.s.seq hs, hf, fun x c hx => ⟨x, _, c, rfl, upd_same, fun us y pw mem hy => ?_⟩⟩
  have eu : us = usort ltI ns := usort_of linI (pw.imp fun h => decide_eq_true h) fun a => by
    rw [mem a]
    exact decide_eq_true_iff
  have sx : Le G1 H1 G1 (upd H1 x (SetO w x (fun j => decide (j ∈ ns)) c)) := .newH l1.s hx
  rw [eu]
  exact q _ G1 _ ((l1.trans sx).trans (.newH sx.s hy)) (.n upd_same (.lst (.of_map (fun _ => .int) _)) (sx.s.free hy) ((l1.trans sx).h.free hy))
def putKD {k : Type} [DecidableEq k] (kvs : List (k × D)) (x : k) (d : D) : List (k × D) := if (kvs.any fun kv => decide (kv.1 = x)) = true then kvs.map fun kv => if kv.1 = x then (kv.1, d) else kv else kvs ++ [(x, d)]
theorem ev_dnewK : Ev K tDNewK env (.n (.dK [])) := fun G0 H0 G H σ S Q q p hp => q _ G _ (.newH S.s hp) (.n upd_same (.dK .nil) (S.s.free hp) hp)
theorem ev_dnewT : Ev K tDNewT env (.n (.dT [])) := fun G0 H0 G H σ S Q q p hp => q _ G _ (.newH S.s hp) (.n upd_same (.dT .nil) (S.s.free hp) hp)
section
variable {G : Hp} {k : Type} {x : k} [DecidableEq k] {d : D} {v : V}
theorem AtP.any : ∀ {ds : List (k × D)} {vs : List (k × V)}, AtP K G ds vs → (ds.any fun kv => decide (kv.1 = x)) = (vs.any fun kv => decide (kv.1 = x))
  | _, _, .nil => rfl
  | _, _, .cons h t => by rw [List.any_cons, List.any_cons, AtP.any t]
theorem AtP.repl (a : At K G d v) : ∀ {ds : List (k × D)} {vs : List (k × V)}, AtP K G ds vs → AtP K G (ds.map fun kv => if kv.1 = x then (kv.1, d) else kv) (vs.map fun kv => if kv.1 = x then (kv.1, v) else kv)
  | _, _, .nil => .nil
  | _, _, .cons (x := y) h t => by
    rw [List.map_cons, List.map_cons]
    by_cases e : y = x
    · rw [if_pos e, if_pos e]
      exact .cons a (AtP.repl a t)
    · rw [if_neg e, if_neg e]
      exact .cons h (AtP.repl a t)
theorem AtP.snoc (a : At K G d v) : ∀ {ds : List (k × D)} {vs : List (k × V)}, AtP K G ds vs → AtP K G (ds ++ [(x, d)]) (vs ++ [(x, v)])
  | _, _, .nil => .cons a .nil
  | _, _, .cons h t => .cons h (AtP.snoc a t)
theorem AtP.putK {ds : List (k × D)} {vs : List (k × V)} (h : AtP K G ds vs) (a : At K G d v) : AtP K G (putKD ds x d) (L2.putK vs x v) := by
  unfold putKD L2.putK
  rw [h.any]
  split
  · exact h.repl a
  · exact h.snoc a
theorem AtP.valV : ∀ {ds : List (k × D)} {vs : List (k × V)}, AtP K G ds vs → (∃ d v, (ds.find? fun kv => decide (kv.1 = x)).map (·.2) = some d ∧ L2.valV vs x = some v ∧ At K G d v) ∨ ((ds.find? fun kv => decide (kv.1 = x)).map (·.2) = none ∧ L2.valV vs x = none)
  | _, _, .nil => .inr ⟨rfl, rfl⟩
  | _, _, .cons (x := y) (d := d1) (v := v1) (ds := ds1) (vs := vs1) h t => by
    unfold L2.valV
    rw [List.find?_cons, List.find?_cons]
    by_cases e : y = x
    · rw [decide_eq_true e]
      exact .inl ⟨d1, v1, rfl, rfl, h⟩
    · rw [decide_eq_false e]
      exact AtP.valV t
end
/-- found[k] = e, found one's own, k an int -/
theorem r_dputK {i : Nat} {kds : List (Key × D)} {d : D} {n : Int} (e : env[i]? = some (.own (.dK kds))) (hv : EvD K tv env d) (hk : EvD K ty env (.int n)) (hl : kds.length < 100000) (q : R (.nx (env.set i (.own (.dK (putKD kds (.inl n) d)))))) :
    Run K E (sDPut (tVar i) ty tv) env R := fun G0 H0 G H σ S Dn f => by
  obtain ⟨l, o, h1, h2, h3, h4, h5⟩ := S.own e
  cases h3 with
  | dK a =>
    refine hv.v S fun v G1 H1 l1 a1 => ⟨_, h1, hk.v (S.mono l1) fun y G2 H2 l2 a2 => ?_⟩
    cases a2
    have hd := l2.h _ _ (l1.h _ _ h2)
    refine ⟨l, _, rfl, .inl ⟨_, .inl n, hd, rfl, by rw [a.length]; exact Nat.lt_of_lt_of_le hl (by decide), rfl⟩, ?_⟩
    exact f _ q G2 _ σ (((S.mono l1).mono l2).mut e h1 (.dK (((a.mono l1.g).mono l2.g).putK (a1.mono l2.g))))
def keyD : Key → D
  | .inl i => .int i
  | .inr x => .str x
theorem AtP.keys {G : Hp} : ∀ {ds : List (Key × D)} {vs : List (Key × V)}, AtP K G ds vs → AtL K G (ds.map fun kv => keyD kv.1) (vs.map fun kv => kV kv.1)
  | _, _, .nil => .nil
  | _, _, .cons (x := .inl _) h t => .cons .int (AtP.keys t)
  | _, _, .cons (x := .inr _) h t => .cons .str (AtP.keys t)
theorem c_listK {kds : List (Key × D)} : OpC K rListD [.dK kds] (.n (.lst (kds.map fun kv => keyD kv.1))) := fun G H vs s a Q q => by
  obtain ⟨v, rfl, a'⟩ := a.one
  cases a' with
  | dK h l => exact ⟨_, _, rfl, s _ _ h, fun x hx => q _ _ _ (.newH s hx) (.newL s hx l.keys)⟩
/-- d.get(t, x), the keys tuples of ints -/
theorem ev_get2T {td tx : TE} {ts : TA} {dds : List (List Key × D)} {ns : List Int} {d dx : D} (h : EvD K td env (.dT dds)) (hk : EvA K ts env (ns.map D.int)) (hn : ns.length ≤ 100000) (hx : EvD K tx env dx)
    (e : ((dds.find? fun kv => decide (kv.1 = ns.map Sum.inl)).map (·.2)).getD dx = d) : EvD K (tDGet2 td (tTup ts) tx) env d := fun G0 H0 G H σ S Q q => h.v S fun v G1 H1 l1 a1 => by
  cases a1 with
  | dT h1 h2 =>
    refine ⟨_, rfl, .inr ⟨_, .inl (l1.s _ _ h1)⟩, ?_⟩
    refine hk G0 H0 G1 H1 σ (S.mono l1) _ fun vs G2 H2 l2 a2 => ⟨by rw [a2.length, List.length_map]; exact Nat.le_trans hn (by decide), fun b hb => ?_⟩
    have ev := a2.ints
    subst ev
    have lb : Le G2 H2 G2 (upd H2 b (.tup (ns.map V.int))) := .newH l2.s hb
    have S3 : Sta K G0 H0 G2 (upd H2 b (.tup (ns.map V.int))) σ env := ((S.mono l1).mono l2).mono lb
    refine hx.v S3 fun z G4 H4 l4 a4 => ?_
    have l14 := (l2.trans lb).trans l4
    have hd : H4 _ = some (HO.dT _) := l14.h _ _ (l1.s _ _ h1)
    have hb4 : H4 b = some (.tup ((ns.map (Sum.inl : Int → Key)).map kV)) := by
      rw [l4.h _ _ upd_same, List.map_map]
      rfl
    refine ⟨_, DGet.t hd hb4, ?_⟩
    rcases (h2.mono l14.g).valV (x := ns.map Sum.inl) with ⟨d1, v1, e1, e2, e3⟩ | ⟨e1, e2⟩
    · rw [e1] at e
      rw [e2]
      cases e
      exact q v1 G4 H4 (l1.trans l14) (.v e3)
    · rw [e1] at e
      rw [e2]
      cases e
      exact q z G4 H4 (l1.trans l14) (.v a4)
end
theorem nodup_len {α : Type} [DecidableEq α] : ∀ {xs ys : List α}, xs.Nodup → (∀ x ∈ xs, x ∈ ys) → xs.length ≤ ys.length
  | [], _, _, _ => Nat.zero_le _
  | x :: xs, ys, h, s => by
    obtain ⟨h1, h2⟩ := List.nodup_cons.mp h
    have m := s x List.mem_cons_self
    have ih := nodup_len (ys := ys.erase x) h2 fun y hy => (List.mem_erase_of_ne fun z => h1 (by rw [← z]; exact hy)).mpr (s y (List.mem_cons_of_mem _ hy))
    rw [List.length_erase_of_mem m] at ih
    have := List.length_pos_of_mem m
    rw [List.length_cons]
    omega
def kT (k : Int) : Key × D := (.inl k, .bl true)
def insK (ks : List Int) (g : Int) : List Int := if g ∈ ks then ks else ks ++ [g]
theorem putKD_true (ks : List Int) (g : Int) : putKD (ks.map kT) (.inl g) (.bl true) = (insK ks g).map kT := by
  have ea : ((ks.map kT).any fun kv => decide (kv.1 = Sum.inl g)) = decide (g ∈ ks) := by
    rw [List.any_map]
    by_cases h : g ∈ ks
    · rw [decide_eq_true h]
      exact List.any_eq_true.mpr ⟨g, h, by simp [kT]⟩
    · rw [decide_eq_false h]
      refine List.any_eq_false.mpr fun x hx => ?_
      have : x ≠ g := fun z => h (z ▸ hx)
      simp [kT, this]
  unfold putKD insK
  rw [ea]
  by_cases h : g ∈ ks
  · rw [if_pos (decide_eq_true h), if_pos h, List.map_map]
    refine List.map_congr_left fun x _ => ?_
    show (if (kT x).1 = Sum.inl g then ((kT x).1, D.bl true) else kT x) = kT x
    split <;> rfl
  · rw [if_neg (by rw [decide_eq_false h]; exact Bool.false_ne_true), if_neg h, List.map_append]
    rfl
theorem insK_nodup {ks : List Int} {g : Int} (h : ks.Nodup) : (insK ks g).Nodup := by
  unfold insK
  split
  · exact h
  · rename_i q
    rw [List.nodup_append]
    exact ⟨h, by simp, fun a ha b hb z => q (by rw [← List.mem_singleton.mp hb, ← z]; exact ha)⟩
theorem mem_insK {ks : List Int} {g k : Int} : k ∈ insK ks g ↔ k ∈ ks ∨ k = g := by
  unfold insK
  split
  · rename_i q
    constructor
    · exact .inl
    · rintro (h | h)
      · exact h
      · rw [h]; exact q
  · rw [List.mem_append, List.mem_singleton]
theorem isort_us {ks xs : List Int} (h : ks.Nodup) (m : ∀ k, k ∈ ks ↔ k ∈ xs) : isort ks = usort ltI xs := by
  refine usort_of linI ?_ fun a => by rw [(isort_perm ks).mem_iff]; exact m a
  have n := (isort_perm ks).nodup_iff.mpr h
  refine ((isort_sorted ks).and n).imp fun {a b} ⟨h1, h2⟩ => ?_
  rw [decide_eq_true_eq]
  omega
theorem keys_kT (ks : List Int) : ((ks.map kT).map fun kv => keyD kv.1) = ks.map D.int := by
  rw [List.map_map]
  rfl
theorem at_map {α : Type} {f : α → D} {xs : List α} {i : Nat} {d : D} (h : (xs.map f)[i]? = some d) : ∃ x, xs[i]? = some x ∧ d = f x := by
  rw [List.getElem?_map] at h
  cases e : xs[i]? with
  | none => rw [e] at h; cases h
  | some x => rw [e] at h; exact ⟨x, rfl, (Option.some.inj h).symm⟩
theorem take_snoc {α : Type} {xs : List α} {i : Nat} {x : α} (h : xs[i]? = some x) : xs.take (i + 1) = xs.take i ++ [x] := by
  rw [List.take_succ, h]
  rfl
end Pd

namespace Pd
open PySem L2
def getI {α : Type} [Inhabited α] (xs : List α) (j : Int) : α := xs.getD j.toNat default
section
variable {α : Type} [Inhabited α] {xs : List α} {f : α → D} {j : Int}
theorem getI_at (h0 : 0 ≤ j) (h1 : j < xs.length) : xs[j.toNat]? = some (getI xs j) := by
  have h : j.toNat < xs.length := by omega
  unfold getI
  rw [List.getD_eq_getElem?_getD, List.getElem?_eq_getElem h]
  rfl
theorem getI_mem (h0 : 0 ≤ j) (h1 : j < xs.length) : getI xs j ∈ xs := List.mem_of_getElem? (getI_at h0 h1)
theorem atI_of {ds : List D} {d : D} (h0 : 0 ≤ j) (h : ds[j.toNat]? = some d) : atI ds j = some d := by
  have hl : j.toNat < ds.length := (List.getElem?_eq_some_iff.mp h).1
  unfold atI ixN
  rw [if_pos h0, if_pos (by omega)]
  exact h
theorem atI_map (h0 : 0 ≤ j) (h1 : j < xs.length) : atI (xs.map f) j = some (f (getI xs j)) := atI_of h0 (by rw [List.getElem?_map, getI_at h0 h1]; rfl)
/-- the last item -/
theorem atI_last1 {ds : List D} {d : D} : atI (ds ++ [d]) (-1) = some d := by
  unfold atI ixN
  rw [if_neg (by decide), if_pos (by rw [List.length_append, List.length_singleton]; omega), Option.bind_some, List.length_append, List.length_singleton]
  have : ((-1 : Int) + ((ds.length + 1 : Nat) : Int)).toNat = ds.length := by omega
  rw [this, List.getElem?_append_right (Nat.le_refl _), Nat.sub_self]
  rfl
end
theorem emod_bd {a b : Int} (h : 0 < b) : 0 ≤ a % b ∧ a % b < b := ⟨Int.emod_nonneg _ (by omega), Int.emod_lt_of_pos _ h⟩
theorem rng_at_ {lo : Int} {n i : Nat} {d : D} (h : ((rng lo n).map D.int)[i]? = some d) : i < n ∧ d = .int (lo + (i : Int)) := by
  obtain ⟨x, h1, h2⟩ := at_map h
  have hi : i < n := by
    have := (List.getElem?_eq_some_iff.mp h1).1
    rwa [rng_length] at this
  rw [rng_at hi] at h1
  cases h1
  exact ⟨hi, h2⟩
theorem ints_snoc {ns : List Int} {x : Int} : ns.map D.int ++ [D.int x] = (ns ++ [x]).map D.int := by
  rw [List.map_append]
  rfl
theorem map_snoc {α : Type} {f : α → D} {xs : List α} {x : α} : xs.map f ++ [f x] = (xs ++ [x]).map f := by
  rw [List.map_append]
  rfl
theorem all_snoc {α : Type} {p : α → Prop} {xs : List α} {x : α} (h : ∀ y ∈ xs, p y) (hx : p x) : ∀ y ∈ xs ++ [x], p y := fun y hy => by
  rcases List.mem_append.mp hy with z | z
  · exact h y z
  · rw [List.mem_singleton.mp z]; exact hx
section
variable {K : PySem.W.Frag} {te : TE} {E : XK} {env : Pd.Env} {R : Out → Prop}
/-- xs.append(e), e any answer of a promise -/
theorem r_appP {i : Nat} {ds : List D} {P : Pd.R → Prop} (e : env[i]? = some (.own (.lst ds))) (h : EvP K te env P) (hl : ds.length < 100000) (q : ∀ r, P r → R (.nx (env.set i (.own (.lst (ds ++ [r.d])))))) :
    Run K E (tDrop (tBM K "list" rAppend (tVar i) (tCons te tNil))) env R := fun G0 H0 G H σ S Dn f => by
  obtain ⟨l, o, h1, h2, h3, h4, h5⟩ := S.own e
  cases h3 with
  | lst a =>
    refine ⟨_, h1, .inl ⟨rfl, _, .inl (.inl h2)⟩, ?_⟩
    refine h G0 H0 G H σ S _ fun r p v G' H' le b => ?_
    obtain ⟨G2, le2, b2⟩ := RAt.d le b
    refine ⟨l, _, v, rfl, rfl, le.h _ _ h2, by rw [a.length]; exact Nat.lt_of_lt_of_le hl (by decide), ?_⟩
    exact f _ (q r p) G2 _ σ ((S.mono le2).mut e h1 (.lst ((a.mono le2.g).app (.cons b2 .nil))))
end
end Pd

namespace Pd
open PySem PySem.Spec PyProof.Rows L2
def tMakeS (C : Addr) (sp : Sp) (E : L2.St → XK) (t : TA) : TE := fun σ H Q => t σ H fun vs H1 => ∀ x dx, H1 x = none → H1 dx = none → dx ≠ x →
  sp (.ref x :: vs) (upd (upd H1 dx (.own x)) x (.ins C dx [])) (fun v H2 => v = .non ∧ Q (.ref x) H2) (E σ)
section
variable {X : Cx} {CX : CXT} {k : Nat} {f C : Addr} {fd : FuncData} {ps : List Str} {sp : Sp} {E : L2.St → XK} {x : Str} {p pos : Pos} {e : Expr} {es : List Expr} {t : TA}
theorem pe_makeS (M : Mk X.K C f) (F : FnOk X.prog X.w X.K X.mg X.base CX k f fd ps sp) (hr : Room (k + 1) X.A) (hg : Gl X x) (hm : X.mg x = some (.ref C)) (hb : Binds X.K fd ps []) (hx : ∀ σ, PassesAt CX X σ (E σ))
    (ha : PA X (e :: es) t) (hdb : (x == ("__debug__" : Str)) = false := by decide) (he : starEach (e :: es) X.env = (false, eval e X.env) :: starEach es X.env := by rfl) (hpl : (backTo pos (starEach es X.env)).any (·.1) = false := by rfl) :
    PE X (.Call (.Name x p) (e :: es) [] pos) (tMakeS C sp E t) := by
  refine ⟨fun pins s σ H Q I h => ?_⟩
  refine wpAny_Call_Name_kw (ld_glob I hg hm ?_ hdb)
  refine PySem.W.callWith_K (h₀ := X.base) I.ok.mod.kin M.kp (thn (ha.run pos pins s σ H _ I h) fun us s1 ⟨vs, H1, I1, r, q⟩ => ⟨I1.kIn, ?_⟩) he hpl
  have hq := q (s1.heap.objs.size + 1) s1.heap.objs.size (I1.hok.fresh (Nat.le_succ _)) (I1.hok.fresh (Nat.le_refl _)) (Nat.ne_of_lt (Nat.lt_succ_self _))
  have I2 := Inv.made (C := C) I1
  have r2 : Vals (V.ref (s1.heap.objs.size + 1) :: vs) (Value.ref (s1.heap.objs.size + 1) :: us) := .cons rfl r
  have hl : (Value.ref (s1.heap.objs.size + 1) :: us).length = ps.length := by
    rw [← r2.length]
    exact F.len _ _ _ _ hq
  have b := hb _ (Value.ref (s1.heap.objs.size + 1) :: us) I2.kIn (by rw [List.append_nil]; exact hl)
  rw [List.append_nil] at b
  refine wpAny_call (make_map (f := f) I1.kIn M.makes M.init (beq_iff_eq.mp M.fn) (codeAny_mono (F.run _ X.stack _ _ ⟨Value.ref (s1.heap.objs.size + 1) :: us, []⟩ _ _ _ (E σ) (hr.make C us []) (I2.env0.make C us []) b r2 hq) fun rr s' hq' => ?_))
  cases rr with
  | error e => exact hx σ pins _ _ e s' I2 hq'
  | ok fl =>
    cases fl with
    | ret u =>
      obtain ⟨v, H', I3, rv, ev, q3⟩ := I2.after hq'
      subst ev
      exact ⟨rv, ⟨V.ref (s1.heap.objs.size + 1), H', I3, rfl, q3⟩⟩
    | next => exact False.elim hq'
    | brk => exact False.elim hq'
    | cont => exact False.elim hq'
end
section
variable {K : PySem.W.Frag} {E : XK} {env : Env} {t u : TS} {R : Out → Prop}
theorem r_raise {C : Addr} (q : R (.rs C)) : Run K E (fun _ σ H => (fun (_ : L2.St) (H : Hp) (Q : XK) => Q (.ref C) none H) σ H fun cls d H' => (fun (cls : Value) (d : Option Addr) (_ : L2.St) (H : Hp) => E cls d H) cls d σ H') env R := fun G0 H0 G H σ S Dn f =>
  f _ q G H S.le
/-- what an __init__ leaves: the fields, or an exception of a class -/
inductive Mkd where
  | ok (fs : List (Str × D)) | no (C : Addr)
def spX (K : PySem.W.Frag) (C : Addr) (n : Nat) (Rl : List D → Mkd → Prop) : Sp := fun vs H Q E => ∃ x dx ws G ds r, vs = .ref x :: ws ∧ H x = some (.ins C dx []) ∧ G x = none ∧ Same G H ∧ AtL K G ds ws ∧ ds.length + 1 = n ∧ Rl ds r ∧
  (∀ fs, r = .ok fs → ∀ G' H', Same G G' → Same G' H' → (∀ b o, b ≠ x → H b = some o → H' b = some o) → (∀ b o, H b = some o → b ≠ x → G b = none → G' b = none) → At K G' (.ins C fs) (.ref x) → Q .non H') ∧
  (∀ Ce, r = .no Ce → ∀ G' H', Le G (cutH H x) G' H' → E (.ref Ce) none H')
theorem spX_len {C : Addr} {n : Nat} {Rl : List D → Mkd → Prop} (vs : List V) (H : Hp) (Q : VK) (E : XK) (h : spX K C n Rl vs H Q E) : vs.length = n := by
  obtain ⟨x, dx, ws, G, ds, r, rfl, _, _, _, a, hn, _⟩ := h
  rw [List.length_cons, a.length, hn]
/-- the state in which an __init__'s body begins -/
theorem sta_init {C x dx : Addr} {N : List Str} {n : Nat} {ws : List V} {G H : Hp} {ds : List D} (hx : H x = some (.ins C dx [])) (gx : G x = none) (s : Same G H) (a : AtL K G ds ws) (hl : ds.length = n) (hN : n + 1 ≤ N.length) :
    Sta K G (cutH H x) G H (L2.start N (.ref x :: ws)) (.own (.ins x C []) :: ds.map B.val ++ List.replicate (N.length - (n + 1)) .no) := by
  have sc : Same G (cutH H x) := fun b o e => by
    have : b ≠ x := fun z => by rw [z, gx] at e; cases e
    rw [cut_ne this]
    exact s b o e
  have S0 := sta_start (N := (N.drop 1)) sc a (by rw [List.length_drop, hl]; omega)
  have es : L2.start N (.ref x :: ws) = some (.ref x) :: L2.start (N.drop 1) ws := by
    unfold L2.start
    rw [List.map_cons, List.cons_append, List.length_cons, List.length_drop, show N.length - (ws.length + 1) = N.length - 1 - ws.length by omega]
  have ee : (B.own (.ins x C []) :: ds.map B.val ++ List.replicate (N.length - (n + 1)) B.no) = B.own (.ins x C []) :: (ds.map B.val ++ List.replicate ((N.drop 1).length - ds.length) B.no) := by
    rw [List.cons_append, List.length_drop, hl, show N.length - (n + 1) = N.length - 1 - n by omega]
  rw [es, ee]
  have noown : ∀ (i : Nat) (o : OO), (ds.map B.val ++ List.replicate ((N.drop 1).length - ds.length) B.no)[i]? ≠ some (.own o) := fun i o z => by
    have m := List.mem_of_getElem? z
    rcases List.mem_append.mp m with m | m
    · obtain ⟨d, _, e⟩ := List.mem_map.mp m
      cases e
    · cases (List.mem_replicate.mp m).2
  refine ⟨⟨Same.refl _, fun b o e => ?_, s, fun _ _ _ h => h⟩, by rw [List.length_cons, List.length_cons, S0.len], fun i b e => ?_, fun i j l o o' e1 e2 e3 e4 => ?_⟩
  · have : b ≠ x := fun z => by rw [z, cut_same] at e; cases e
    rw [cut_ne this] at e
    exact e
  · match i, e with
    | 0, e =>
      cases e
      exact ⟨_, rfl, .own hx (.ins .nil) gx cut_same⟩
    | i + 1, e =>
      obtain ⟨y, y1, y2⟩ := S0.at_ i b e
      refine ⟨y, y1, ?_⟩
      cases y2 with
      | no => exact .no
      | val h => exact .val h
      | own a1 a2 a3 a4 => exact (noown i _ e).elim
  · match i, j, e1, e2 with
    | 0, 0, _, _ => rfl
    | 0, j + 1, _, e2 => exact (noown j o' e2).elim
    | i + 1, _, e1, _ => exact (noown i o e1).elim
theorem init_ofX (no : List B) {C : Addr} {Rl : List D → Mkd → Prop} {N : List Str} {n : Nat} {t : TS} {vs : List V} {H : Hp} {Q : VK} {E0 : XK} (h : spX K C (n + 1) Rl vs H Q E0)
    (k : ∀ ds r, ds.length = n → Rl ds r → ∀ x, Run K E0 t (.own (.ins x C []) :: ds.map B.val ++ no) (fun o => (∃ fs e, r = .ok fs ∧ o = .nx e ∧ e[0]? = some (.own (.ins x C fs))) ∨ ∃ Ce, r = .no Ce ∧ o = .rs Ce)) (hN : n + 1 ≤ N.length := by decide) (hno : no = List.replicate (N.length - (n + 1)) .no := by rfl) :
    t { nx := fun _ H' => Q .non H', rt := Q } (L2.start N vs) H := by
  obtain ⟨x, dx, ws, G, ds, r, rfl, hx, gx, s, a, hl, hr, q1, q2⟩ := h
  cases r with
  | ok fs =>
    refine init_of (E0 := E0) (Rl := fun ds' fs' => ds' = ds ∧ fs' = fs) no ⟨x, dx, ws, G, ds, fs, rfl, hx, gx, s, a, hl, ⟨rfl, rfl⟩, q1 fs rfl⟩ (fun ds' fs' hl' hr' x' => ?_) hN hno
    obtain ⟨rfl, rfl⟩ := hr'
    refine (k ds' (.ok fs') hl' hr x').post fun o ho => ?_
    rcases ho with ⟨fs2, e, e1, e2, e3⟩ | ⟨Ce, e1, _⟩
    · cases e1
      exact ⟨e, e2, e3⟩
    · cases e1
  | no Ce =>
    subst hno
    replace hl : ds.length = n := by omega
    refine k ds (.no Ce) hl hr x G (cutH H x) G H _ (sta_init hx gx s a hl hN) _ fun o ho => ?_
    rcases ho with ⟨fs2, e, e1, e2, e3⟩ | ⟨Ce', e1, rfl⟩
    · cases e1
    · cases e1
      exact fun G2 H2 l => q2 _ rfl G2 H2 l
/-- a statement that may raise: R the ways on, Xc the class and the slots at a raise -/
def RunX (K : PySem.W.Frag) (W : WX) (t : TS) (env : Env) (R : Out → Prop) (Xc : Addr → Env → Prop) : Prop :=
  ∀ (G0 H0 G H : Hp) (σ : L2.St), Sta K G0 H0 G H σ env → ∀ Dn : Ends, (∀ o, R o → Fin K G0 H0 Dn (fun _ _ _ => False) o) → (∀ Ce e, Xc Ce e → ∀ G' H' σ', Sta K G0 H0 G' H' σ' e → W (.ref Ce) none σ' H') → t Dn σ H
theorem x_make {W : WX} {C : Addr} {n : Nat} {Rl : List D → Mkd → Prop} {ta : TA} {ds : List D} {r : Mkd} {i : Nat} {Xc : Addr → Env → Prop} (h : EvA K ta env ds) (hr : Rl ds r) (h1 : ∀ fs, r = .ok fs → R (.nx (env.set i (.val (.ins C fs))))) (h2 : ∀ Ce, r = .no Ce → Xc Ce env)
    (hn : ds.length + 1 = n := by rfl) : RunX K W (tAsg (tMakeS C (spX K C n Rl) (WE W) ta) (gName i)) env R Xc := fun G0 H0 G H σ S Dn f g =>
  h G0 H0 G H σ S _ fun vs G1 H1 l1 a1 x dx hx hdx ne => by
    have sx : Same H1 (upd (upd H1 dx (.own x)) x (.ins C dx [])) := fun b o e => by
      rw [upd_ne (ne_of_none e hx), upd_ne (ne_of_none e hdx)]
      exact e
    have S1 := S.mono l1
    refine ⟨x, dx, _, G1, ds, r, rfl, upd_same, l1.s.free hx, l1.s.trans sx, a1, hn, hr, fun fs er G' H' s1 s2 k1 k2 a => ⟨rfl, ?_⟩, fun Ce er G' H' l => ?_⟩
    · have l2 : Le G1 H1 G' H' := ⟨s1, fun b o e => k1 b o (ne_of_none e hx) (sx b o e), s2, fun b o e gg => k2 b o (sx b o e) (ne_of_none e hx) gg⟩
      exact f _ (h1 fs er) G' H' _ (S1.set (r := .v (.ins C fs)) l2 (.v a))
    · have sc : ∀ b o, H1 b = some o → cutH (upd (upd H1 dx (.own x)) x (.ins C dx [])) x b = some o := fun b o e => by
        rw [cut_ne (ne_of_none e hx)]
        exact sx b o e
      have l2 : Le G1 H1 G' H' := ⟨l.g, fun b o e => l.h b o (sc b o e), l.s, fun b o e gg => l.n b o (sc b o e) gg⟩
      exact g Ce env (h2 Ce er) G' H' σ (S1.mono l2)
def tTry (K : PySem.W.Frag) (c : Value) (i : Nat) (D1 : Addr) (tb : WX → TS) (ts : Addr → TS) : TS := fun Dn σ H => tb (wAs K c i (fun a cls d Dn σ H => cls = .ref D1 ∧ d = none ∧ ts a Dn σ H) (fun _ _ _ _ => False) Dn) Dn σ H
theorem ps_try1 {X : Cx} {x n : Str} {c : Value} {i : Nat} {D1 : Addr} {body suite : List Stmt} {b₀ : Stmt} {np pos pos' : Pos} {tb : WX → TS} {ts : Addr → TS}
    (hs : X.stack = X.env :: X.outer) (hf : X.env.frame = some X.env.locals) (hN : X.N.Nodup) (hi : X.N[i]? = some n) (hln : X.env.kindOf n = some .local) (hc : Names X x c)
    (hb : ∀ (W : WX) (pn : List (Addr × Obj)) (xe : Value → Shared → Prop), Takes (X.tr pn xe) W → PassesOwn (model X.prog X.w) X.A X.env xe → PSs (X.tr pn xe) body (tb W))
    (hsu : ∀ (a : Addr) (oe : Obj) (pn : List (Addr × Obj)), Zc (.ref D1) none oe → (∃ vs, oe.data = .fields vs) → PSs (X.suite a ((a, oe) :: pn)) (b₀ :: suite) (ts a)) :
    PS X (.Try body [.ExceptHandler (some (.Name x np)) (some n) (b₀ :: suite) pos'] [] [] pos) (tTry X.K c i D1 tb ts) :=
  ps_try_as hs hf hN hi hln hc takes0 hb fun a oe cls d pn hz hv => ⟨fun pins s σ H Dn I h => by
    obtain ⟨rfl, rfl, h⟩ := h
    exact (hsu a oe pn hz hv).run pins s σ H Dn I h⟩
def suiteR (i : Nat) (R : Out → Prop) : Out → Prop
  | .nx e => R (.nx (e.set i .no))
  | .bk e => R (.bk (e.set i .no))
  | .ct e => R (.ct (e.set i .no))
  | .rt r => R (.rt r)
  | .rs _ => False
theorem q_try {c : Value} {i : Nat} {D1 : Addr} {tb : WX → TS} {ts : Addr → TS} {Xc : Addr → Env → Prop} (hcm : PySem.W.exmOne K (.ref D1) c = some true) (hR : ∀ C, ¬ R (.rs C)) (hb : ∀ W, RunX K W (tb W) env R Xc) (hx : ∀ Ce e, Xc Ce e → Ce = D1)
    (hs : ∀ a e, Xc D1 e → Run K E (ts a) (e.set i (.val (.cls a))) (suiteR i R)) : Run K E (tTry K c i D1 tb ts) env R := fun G0 H0 G H σ S Dn f => by
  refine hb _ G0 H0 G H σ S Dn (fun o q => ?_) fun Ce e q G' H' σ' S' => ?_
  · cases o with
    | rs C => exact (hR C q).elim
    | nx e => exact f _ q
    | bk e => exact f _ q
    | ct e => exact f _ q
    | rt r => exact f _ q
  · obtain rfl := hx Ce e q
    refine ⟨true, hcm, fun _ a ha => ⟨rfl, rfl, ?_⟩, fun z => nomatch z⟩
    refine hs a e q G0 H0 G' H' _ (S'.set (r := .v (.cls a)) (.refl S'.s) (.v .cls)) _ fun o qo => ?_
    cases o with
    | rs C => exact qo.elim
    | nx e => exact fun G5 H5 σ5 S5 => f _ qo G5 H5 _ S5.set_no
    | bk e => exact fun G5 H5 σ5 S5 => f _ qo G5 H5 _ S5.set_no
    | ct e => exact fun G5 H5 σ5 S5 => f _ qo G5 H5 _ S5.set_no
    | rt r => exact fun u G5 H5 l5 a5 => f _ qo u G5 H5 l5 a5
/-- isinstance(e, c) in the suite -/
theorem c_isE {D1 a : Addr} {c : D} {u : Value} {b : Bool} (hu : c.cv = some u) (h : PySem.W.kitOne K (.ref D1) u = some b) : OpC K (rIsE K D1 a) [.cls a, c] (.v (.bl b)) := fun G H vs s al Q q => by
  obtain ⟨v1, v2, rfl, a1, a2⟩ := al.two
  cases a1
  cases a2 with
  | ty => cases hu; exact ⟨_, _, b, rfl, fun w r => r, h, q _ G H (.refl s) (.v .bl)⟩
  | cls => cases hu; exact ⟨_, _, b, rfl, fun w r => r, h, q _ G H (.refl s) (.v .bl)⟩
  | _ => cases hu
end
end Pd

namespace Pd
open PySem PySem.Spec PyProof.Rows L2
section
variable {K : PySem.W.Frag} {G H : Hp}
/-- items that == tells apart just as Lean does -/
structure Enc {α : Type} [DecidableEq α] (K : PySem.W.Frag) (f : α → D) (g : α → PyData) : Prop where
  dp : ∀ {G : Hp} {x : α} {v : V}, At K G (f x) v → Dp K G v (g x)
  eq : ∀ x y, PyData.eqv (g x) (g y) = decide (x = y)
  lay : ∀ x, (g x).canLay0 = true
  dep : ∀ x, (g x).depth ≤ 8
variable {α : Type} [DecidableEq α] {f : α → D} {g : α → PyData}
theorem Enc.all (e : Enc K f g) : ∀ {xs : List α} {vs : List V}, AtL K G (xs.map f) vs → DpAll K G vs (xs.map g)
  | [], _, .nil => .nil
  | _ :: _, _, .cons a r => .cons (e.dp a) (e.all r)
theorem Enc.eqAll (e : Enc K f g) : ∀ xs ys : List α, PyData.eqvAll (xs.map g) (ys.map g) = decide (xs = ys)
  | [], [] => by simp [PyData.eqvAll]
  | [], y :: ys => by simp [PyData.eqvAll]
  | x :: xs, [] => by simp [PyData.eqvAll]
  | x :: xs, y :: ys => by
    rw [List.map_cons, List.map_cons, PyData.eqvAll, e.eq, e.eqAll xs ys]
    by_cases h : x = y
    · subst h; simp
    · simp [h]
theorem Enc.layAll (e : Enc K f g) : ∀ xs : List α, PyData.canLayAll0 (xs.map g) = true
  | [] => by simp [PyData.canLayAll0]
  | x :: xs => by rw [List.map_cons, PyData.canLayAll0, e.lay, e.layAll xs]; rfl
theorem Enc.depAll (e : Enc K f g) : ∀ xs : List α, PyData.depthAll (xs.map g) ≤ 8
  | [] => by simp [PyData.depthAll]
  | x :: xs => by
    rw [List.map_cons, PyData.depthAll]
    exact Nat.max_le.mpr ⟨e.dep x, e.depAll xs⟩
theorem shaped_of {d : PyData} (h1 : d.canLay0 = true) (h2 : d.depth ≤ 9) : SeqAt.shaped d = true := by
  unfold SeqAt.shaped
  rw [h1, decide_eq_true (Nat.le_trans h2 (by decide))]
  rfl
theorem Enc.sh (e : Enc K f g) (x : α) : SeqAt.shaped (g x) = true := shaped_of (e.lay x) (Nat.le_succ_of_le (e.dep x))
theorem Enc.shL (e : Enc K f g) (xs : List α) : SeqAt.shaped (.list (xs.map g)) = true := shaped_of (by rw [PyData.canLay0]; exact e.layAll xs) (by rw [PyData.depth]; exact Nat.succ_le_succ (e.depAll xs))
theorem Enc.shT (e : Enc K f g) (xs : List α) : SeqAt.shaped (.tuple (xs.map g)) = true := shaped_of (by rw [PyData.canLay0]; exact e.layAll xs) (by rw [PyData.depth]; exact Nat.succ_le_succ (e.depAll xs))
theorem Enc.dpT (e : Enc K f g) {xs : List α} {v : V} (a : At K G (.tup (xs.map f)) v) : Dp K G v (.tuple (xs.map g)) := by
  cases a with
  | tup h l => exact .tup h (e.all l)
theorem Enc.dpL (e : Enc K f g) {d0 : D} {xs : List α} {v : V} (q0 : isSeq d0 (xs.map f)) (a : At K G d0 v) : Dp K G v (.list (xs.map g)) := by
  obtain ⟨p, vs, rfl, h, l⟩ := a.seqL q0
  exact .lst h (e.all l)
theorem Enc.eqT (e : Enc K f g) (xs ys : List α) : PyData.eqv (.tuple (xs.map g)) (.tuple (ys.map g)) = decide (xs = ys) := by
  rw [PyData.eqv]
  exact e.eqAll xs ys
theorem Enc.eqL (e : Enc K f g) (xs ys : List α) : PyData.eqv (.list (xs.map g)) (.list (ys.map g)) = decide (xs = ys) := by
  rw [PyData.eqv]
  exact e.eqAll xs ys
theorem o_eqT (e : Enc K f g) {xs ys : List α} : Op2 K (rEqD K) (.tup (xs.map f)) (.tup (ys.map f)) (.v (.bl (decide (xs = ys)))) := fun G H v w s a b Q q =>
  ⟨_, _, e.dpT (a.mono s), e.dpT (b.mono s), e.shT xs, e.shT ys, by rw [e.eqT]; exact q _ G H (.refl s) (.v .bl)⟩
theorem o_neT (e : Enc K f g) {xs ys : List α} : Op2 K (rNeD K) (.tup (xs.map f)) (.tup (ys.map f)) (.v (.bl (!decide (xs = ys)))) := fun G H v w s a b Q q =>
  ⟨_, _, e.dpT (a.mono s), e.dpT (b.mono s), e.shT xs, e.shT ys, by rw [e.eqT]; exact q _ G H (.refl s) (.v .bl)⟩
theorem o_eqL (e : Enc K f g) {d0 d1 : D} {xs ys : List α} (q0 : isSeq d0 (xs.map f)) (q1 : isSeq d1 (ys.map f)) : Op2 K (rEqD K) d0 d1 (.v (.bl (decide (xs = ys)))) := fun G H v w s a b Q q =>
  ⟨_, _, e.dpL q0 (a.mono s), e.dpL q1 (b.mono s), e.shL xs, e.shL ys, by rw [e.eqL]; exact q _ G H (.refl s) (.v .bl)⟩
theorem o_neL (e : Enc K f g) {d0 d1 : D} {xs ys : List α} (q0 : isSeq d0 (xs.map f)) (q1 : isSeq d1 (ys.map f)) : Op2 K (rNeD K) d0 d1 (.v (.bl (!decide (xs = ys)))) := fun G H v w s a b Q q =>
  ⟨_, _, e.dpL q0 (a.mono s), e.dpL q1 (b.mono s), e.shL xs, e.shL ys, by rw [e.eqL]; exact q _ G H (.refl s) (.v .bl)⟩
theorem o_neE (e : Enc K f g) {x y : α} : Op2 K (rNeD K) (f x) (f y) (.v (.bl (!decide (x = y)))) := fun G H v w s a b Q q =>
  ⟨_, _, e.dp (a.mono s), e.dp (b.mono s), e.sh x, e.sh y, by rw [e.eq]; exact q _ G H (.refl s) (.v .bl)⟩
theorem o_eqE (e : Enc K f g) {x y : α} : Op2 K (rEqD K) (f x) (f y) (.v (.bl (decide (x = y)))) := fun G H v w s a b Q q =>
  ⟨_, _, e.dp (a.mono s), e.dp (b.mono s), e.sh x, e.sh y, by rw [e.eq]; exact q _ G H (.refl s) (.v .bl)⟩
theorem encI : Enc K D.int PyData.int where
  dp := fun a => by cases a; exact .int _
  eq := fun x y => by rw [PyData.eqv]; rfl
  lay := fun x => by rw [PyData.canLay0]
  dep := fun x => by rw [PyData.depth]; decide
def pyE (e : Edge) : PyData := .tuple ([e.1, e.2.1, e.2.2].map PyData.int)
theorem encEE : Enc K encE pyE where
  dp := fun {G e v} a => (encI (K := K)).dpT (xs := [e.1, e.2.1, e.2.2]) a
  eq := fun x y => by
    unfold pyE
    rw [(encI (K := K)).eqT]
    congr 1
    obtain ⟨a, b, c⟩ := x
    obtain ⟨a', b', c'⟩ := y
    simp
  lay := fun x => by unfold pyE; rw [PyData.canLay0]; exact (encI (K := K)).layAll _
  dep := fun x => by unfold pyE; rw [PyData.depth]; simp [PyData.depthAll, PyData.depth]
def dins {α : Type} (lt : α → α → Bool) (x : α) : List α → List α
  | [] => [x]
  | y :: r => if lt y x = true then y :: dins lt x r else x :: y :: r
def dsort {α : Type} (lt : α → α → Bool) (xs : List α) : List α := xs.foldr (dins lt) []
theorem dins_perm {α : Type} {lt : α → α → Bool} {x : α} : ∀ l : List α, (dins lt x l).Perm (x :: l)
  | [] => .refl _
  | y :: r => by
    unfold dins
    split
    · exact ((dins_perm r).cons y).trans (.swap x y r)
    · exact .refl _
theorem dsort_perm {α : Type} {lt : α → α → Bool} : ∀ xs : List α, (dsort lt xs).Perm xs
  | [] => .refl _
  | x :: xs => (dins_perm _).trans ((dsort_perm xs).cons x)
theorem dins_sorted {α : Type} {lt : α → α → Bool} (L : Lin lt) {x : α} : ∀ {l : List α}, l.Pairwise (fun a b => lt b a = false) → (dins lt x l).Pairwise (fun a b => lt b a = false)
  | [], _ => List.pairwise_singleton _ _
  | y :: r, h => by
    obtain ⟨h1, h2⟩ := List.pairwise_cons.mp h
    unfold dins
    split
    · rename_i q
      refine List.pairwise_cons.mpr ⟨fun a ha => ?_, dins_sorted L h2⟩
      rcases List.mem_cons.mp ((dins_perm r).mem_iff.mp ha) with z | z
      · rw [z]
        cases hz : lt x y with
        | false => rfl
        | true => have := L.tr _ _ _ q hz; rw [L.irr] at this; cases this
      · exact h1 a z
    · rename_i q
      have q' : lt y x = false := by simpa using q
      refine List.pairwise_cons.mpr ⟨fun a ha => ?_, h⟩
      rcases List.mem_cons.mp ha with z | z
      · rw [z]; exact q'
      · cases hz : lt a x with
        | false => rfl
        | true =>
          have ha := h1 a z
          cases hy : lt y a with
          | true => have := L.tr _ _ _ hy hz; rw [q'] at this; cases this
          | false => rw [L.tot y a hy ha, hz] at q'; cases q'
theorem dsort_sorted {α : Type} {lt : α → α → Bool} (L : Lin lt) : ∀ xs : List α, (dsort lt xs).Pairwise (fun a b => lt b a = false)
  | [] => List.Pairwise.nil
  | x :: xs => dins_sorted L (dsort_sorted L xs)
theorem ds_one {α : Type} {lt : α → α → Bool} (L : Lin lt) : ∀ {xs ys : List α}, xs.Perm ys → xs.Pairwise (fun a b => lt b a = false) → ys.Pairwise (fun a b => lt b a = false) → xs = ys
  | [], ys, p, _, _ => p.nil_eq
  | x :: xs, [], p, _, _ => p.symm.nil_eq.symm
  | x :: xs, y :: ys, p, h1, h2 => by
    obtain ⟨a1, a2⟩ := List.pairwise_cons.mp h1
    obtain ⟨b1, b2⟩ := List.pairwise_cons.mp h2
    have e : x = y := by
      have m1 : x ∈ y :: ys := p.mem_iff.mp List.mem_cons_self
      have m2 : y ∈ x :: xs := p.mem_iff.mpr List.mem_cons_self
      rcases List.mem_cons.mp m1 with z | z
      · exact z
      · rcases List.mem_cons.mp m2 with w | w
        · exact w.symm
        · exact L.tot x y (b1 x z) (a1 y w)
    subst e
    rw [ds_one L (List.perm_cons x |>.mp p) a2 b2]
theorem c_sortI' {ns : List Int} {d0 : D} (q0 : isSeq d0 (ns.map D.int)) : OpC K (rSortedI K) [d0] (.n (.lst ((dsort ltI ns).map D.int))) := by
  have e : isort ns = dsort ltI ns := ds_one linI ((isort_perm ns).trans (dsort_perm ns).symm) ((isort_sorted ns).imp fun h => by rw [decide_eq_false_iff_not]; omega) (dsort_sorted linI ns)
  rw [← e]
  exact c_sortI q0
theorem AtL.pick {f : α → D} : ∀ {xs : List α} {vs : List V} {v : V}, AtL K G (xs.map f) vs → v ∈ vs → ∃ x, x ∈ xs ∧ At K G (f x) v
  | [], _, _, .nil, h => by cases h
  | x :: xs, _, v, .cons a r, h => by
    rcases List.mem_cons.mp h with z | z
    · exact ⟨x, List.mem_cons_self, z ▸ a⟩
    · obtain ⟨y, h1, h2⟩ := r.pick z
      exact ⟨y, List.mem_cons_of_mem _ h1, h2⟩
theorem encE_at {e : Edge} {v : V} (a : At K G (encE e) v) : TupI K G v (encL e) := by
  cases a with
  | tup h l =>
    refine ⟨_, rfl, ?_⟩
    have : _ = (encL e).map V.int := AtL.ints (ns := encL e) l
    rw [← this]
    exact h
theorem AtL.perm {f : α → D} {ys vs : List V} (p : ys.Perm vs) : ∀ {xs : List α}, AtL K G (xs.map f) vs → ∃ zs : List α, zs.Perm xs ∧ AtL K G (zs.map f) ys := by
  induction p with
  | nil => exact fun {xs} a => ⟨xs, .refl _, a⟩
  | cons v p ih =>
    intro xs a
    match xs, a with
    | x :: xs, .cons a r =>
      obtain ⟨zs, h1, h2⟩ := ih r
      exact ⟨x :: zs, h1.cons x, .cons a h2⟩
  | swap v w l =>
    intro xs a
    match xs, a with
    | [_], .cons _ r => cases r
    | x :: y :: xs, .cons a (.cons b r) => exact ⟨y :: x :: xs, .swap x y xs, .cons b (.cons a r)⟩
  | trans p1 p2 ih1 ih2 =>
    intro xs a
    obtain ⟨zs, h1, h2⟩ := ih2 a
    obtain ⟨us, h3, h4⟩ := ih1 h2
    exact ⟨us, h3.trans h1, h4⟩
theorem AtL.pw {f : α → D} {R : V → V → Prop} {S : α → α → Prop} : ∀ {xs : List α} {vs : List V}, (∀ x y v w, x ∈ xs → y ∈ xs → At K G (f x) v → At K G (f y) w → R v w → S x y) → AtL K G (xs.map f) vs → vs.Pairwise R → xs.Pairwise S
  | [], _, _, _, _ => .nil
  | x :: xs, _, h, .cons a r, p => by
    obtain ⟨p1, p2⟩ := List.pairwise_cons.mp p
    refine List.pairwise_cons.mpr ⟨fun y hy => ?_, r.pw (fun x y v w m1 m2 => h x y v w (List.mem_cons_of_mem _ m1) (List.mem_cons_of_mem _ m2)) p2⟩
    obtain ⟨i, hi⟩ := List.getElem?_of_mem hy
    obtain ⟨w, e1, e2⟩ := r.at_ (i := i) (d := f y) (by rw [List.getElem?_map, hi]; rfl)
    exact h x y _ w List.mem_cons_self (List.mem_cons_of_mem _ hy) a e2 (p1 w (List.mem_of_getElem? e1))
theorem c_sortE {d0 : D} {es : List Edge} {B : Int} (q0 : isSeq d0 (es.map encE)) (hB : ∀ e ∈ es, (0 ≤ e.1 ∧ e.1 < B) ∧ (0 ≤ e.2.1 ∧ e.2.1 < B) ∧ (0 ≤ e.2.2 ∧ e.2.2 < B)) (hf : es.length < 64) : OpC K (rSortU K 3 B) [d0] (.n (.lst ((dsort ltE es).map encE))) := fun G H vs s a Q q => by
  obtain ⟨v, rfl, a'⟩ := a.one
  obtain ⟨p, vs, rfl, h, l⟩ := a'.seqL q0
  have bd : ∀ e ∈ es, TS.Bd B (encL e) := fun e he m hm => by
    have := hB e he
    unfold encL at hm
    simp only [List.mem_cons, List.not_mem_nil, or_false] at hm
    rcases hm with z | z | z <;> subst z
    · exact this.1
    · exact this.2.1
    · exact this.2.2
  have up : ∀ {e : Edge} {v : V}, At K G (encE e) v → TupI K H v (encL e) := fun a => encE_at (a.mono s)
  refine ⟨p, vs, rfl, s.seq h, by rw [l.length, List.length_map]; exact hf, fun x hx => ?_, fun ys p' hp hs hx => ?_⟩
  · obtain ⟨e, he, ae⟩ := l.pick hx
    exact ⟨encL e, up ae, rfl, bd e he⟩
  · obtain ⟨zs, h1, h2⟩ := l.perm hp
    have hz : zs.Pairwise (fun a b => ltE b a = false) := h2.pw (fun x y v w m1 m2 a1 a2 hvw => by
      have hc := hvw _ _ (up a1) (up a2)
      by_cases e : x = y
      · rw [e]; exact linE.irr y
      · have hl := code_edge (bd x (h1.mem_iff.mp m1)) (bd y (h1.mem_iff.mp m2)) hc e
        cases hq : ltE y x with
        | false => rfl
        | true => have := linE.tr _ _ _ hl hq; rw [linE.irr] at this; cases this) hs
    rw [ds_one linE (h1.trans (dsort_perm es).symm) hz (dsort_sorted linE es)] at h2
    exact q _ _ _ (.newH s hx) (.newL s hx h2)
end
section
variable {K : PySem.W.Frag} {X : Cx}
/-- one call, two rules -/
def rOr (r1 r2 : List V → Hp → VK → Prop) : List V → Hp → VK → Prop := fun xs H Q => r1 xs H Q ∨ r2 xs H Q
theorem cr_or {f : Value} {r1 r2 : List V → Hp → VK → Prop} (h1 : CallR X f r1) (h2 : CallR X f r2) : CallR X f (rOr r1 r2) := fun pins s σ H vs us Q I r h => h.elim (h1 pins s σ H vs us Q I r) (h2 pins s σ H vs us Q I r)
theorem OpC.l {r1 r2 : List V → Hp → VK → Prop} {ds : List D} {z : R} (h : OpC K r1 ds z) : OpC K (rOr r1 r2) ds z := fun G H vs s a Q q => .inl (h G H vs s a Q q)
theorem OpC.r {r1 r2 : List V → Hp → VK → Prop} {ds : List D} {z : R} (h : OpC K r2 ds z) : OpC K (rOr r1 r2) ds z := fun G H vs s a Q q => .inr (h G H vs s a Q q)
theorem kcr_sortT (K : PySem.W.Frag) {d : Nat} {B : Int} (hd : 1 ≤ d) (h : X.K = K := by rfl) : CallR X (.builtin "sorted") (rSortU K d B) := h ▸ cr_sortT hd
theorem kcr_sortIT (K : PySem.W.Frag) {d : Nat} {B : Int} (hd : 1 ≤ d) (h : X.K = K := by rfl) : CallR X (.builtin "sorted") (rOr (rSortedI K) (rSortU K d B)) := cr_or (h ▸ cr_sortedI) (kcr_sortT K hd h)
/-- what isinstance asks of an own class -/
structure IsC (K : PySem.W.Frag) (C : Addr) : Prop where
  ha : PySem.W.findIn K (.ref C) "__class__" = some (some (.builtin "object.__class__"))
  hn : PySem.W.specialIn K (.builtin "object.__class__") "__get__" = some (some (.builtin "getset_descriptor.__get__"))
  ht : PySem.W.takesIn K (.builtin "object.__class__") = some true
  hm : PySem.W.mroIn K C (.type "object") = some true
theorem c_isiI {C : Addr} {fs : List (Str × D)} {c : D} {u : Value} {b : Bool} (cl : Cls K C) (ic : IsC K C) (hu : c.cv = some u) (h : PySem.W.kitOne K (.ref C) u = some b) : OpC K (rIsi K) [.ins C fs, c] (.v (.bl b)) := fun G H vs s a Q q => by
  obtain ⟨v, w, rfl, a', a2⟩ := a.two
  have hc : ClsV w u := by
    cases a2 with
    | ty => cases hu; exact .ty _
    | cls => cases hu; exact .own _
    | _ => cases hu
  cases a' with
  | ins h1 h2 => exact ⟨_, w, .ref C, u, b, rfl, hc, .base (.ins (s _ _ h1) cl ic.ha ic.hn ic.ht ic.hm), h, q _ G H (.refl s) (.v .bl)⟩
end
section
variable {K : PySem.W.Frag}
theorem kit_self {t : Value} : PySem.W.kitOne K t t = some true := by
  unfold PySem.W.kitOne
  rw [if_pos (by simp)]
theorem kit_ref {C D : Addr} {b : Bool} (h1 : PySem.W.isClsIn K D = true) (h2 : PySem.W.typeIn K (.ref D) = some (.type "type")) (hn : (C == D) = false) (h3 : PySem.W.subIn K (.ref C) (.ref D) = some b) : PySem.W.kitOne K (.ref C) (.ref D) = some b := by
  have hne : ¬ ((Value.ref C == Value.ref D) = true) := by
    intro z
    rw [beq_iff_eq] at z
    cases z
    simp at hn
  unfold PySem.W.kitOne
  rw [if_neg hne]
  have e2 : ((PySem.W.clsIn K D).isSome && PySem.W.typeIn K (.ref D) == some (.type "type")) = true := by
    have h1' : (PySem.W.clsIn K D).isSome = true := h1
    rw [h1', h2] <;> rfl
  show (if ((PySem.W.clsIn K D).isSome && PySem.W.typeIn K (.ref D) == some (.type "type")) = true then PySem.W.subIn K (.ref C) (.ref D) else none) = some b
  rw [if_pos e2]
  exact h3
theorem kit_typ {C : Addr} {T : String} {b : Bool} (h1 : PySem.W.kitMeta T = true) (h3 : PySem.W.subIn K (.ref C) (.type T) = some b) : PySem.W.kitOne K (.ref C) (.type T) = some b := by
  unfold PySem.W.kitOne
  rw [if_neg (by intro z; rw [beq_iff_eq] at z; cases z)]
  show (if PySem.W.kitMeta T = true then PySem.W.subIn K (.ref C) (.type T) else none) = some b
  rw [if_pos h1]
  exact h3
end
theorem once_step {α : Type} [DecidableEq α] {lt : α → α → Bool} (L : Lin lt) {xs ds : List α} {i : Nat} {x : α} (hs : (dsort lt xs).Pairwise (fun a b => lt b a = false)) (hx : (dsort lt xs)[i]? = some x) (hm : ∀ y, y ∈ ds ↔ y ∈ (dsort lt xs).take i) (hd : ds.Pairwise (fun a b => lt a b = true))
    (hl : ∀ y, ds.getLast? = some y → ∀ z ∈ ds, z = y ∨ lt z y = true) :
    (ds.getLast? = some x → x ∈ ds) ∧ (ds.getLast? ≠ some x → (∀ z ∈ ds, lt z x = true)) := by
  refine ⟨List.mem_of_getLast?, fun ne z hz => ?_⟩
  have le : ∀ y ∈ ds, lt x y = false := fun y hy => by
    obtain ⟨j, hj⟩ := List.getElem?_of_mem ((hm y).mp hy)
    have hlt : j < i := by
      have := (List.getElem?_eq_some_iff.mp hj).1
      rw [List.length_take] at this
      omega
    rw [List.getElem?_take_of_lt hlt] at hj
    have h1 := (List.getElem?_eq_some_iff.mp hj)
    have h2 := (List.getElem?_eq_some_iff.mp hx)
    have := List.pairwise_iff_getElem.mp hs j i h1.1 h2.1 hlt
    rw [h1.2, h2.2] at this
    exact this
  cases hq : ds.getLast? with
  | none =>
    rw [List.getLast?_eq_none_iff] at hq
    rw [hq] at hz
    cases hz
  | some y =>
    have hy : y ∈ ds := List.mem_of_getLast? hq
    have hyx : lt y x = true := by
      cases hc : lt y x with
      | true => rfl
      | false => exact (ne (by rw [hq, L.tot y x hc (le y hy)])).elim
    rcases hl y hq z hz with e | e
    · rw [e]; exact hyx
    · exact L.tr _ _ _ e hyx
end Pd

namespace Pd
open PySem L2
section
variable {K : PySem.W.Frag} {E : XK} {env : Env} {t u : TS} {te te1 te2 : TE} {R : Out → Prop}
/-- arguments: settled data, then two own lists -/
def EvA2 (K : PySem.W.Frag) (ta : TA) (env : Env) (pre es xs : List D) : Prop := ∀ (G0 H0 G H : Hp) (σ : L2.St), Sta K G0 H0 G H σ env → ∀ Q : List V → Hp → Prop,
  (∀ vs a b ws us G' H', Le G H G' H' → AtL K G' pre vs → H' a = some (.lst ws) → AtL K G' es ws → H' b = some (.lst us) → AtL K G' xs us → G' a = none → G' b = none → H0 a = none → H0 b = none → a ≠ b → Q (vs ++ [.ref a, .ref b]) H') → ta σ H Q
theorem ea2_own {i j : Nat} {es xs : List D} (h1 : env[i]? = some (.own (.lst es))) (h2 : env[j]? = some (.own (.lst xs))) (ne : i ≠ j) : EvA2 K (tCons (tVar i) (tCons (tVar j) tNil)) env [] es xs := fun G0 H0 G H σ S Q q => by
  obtain ⟨a, o, f1, f2, f3, f4, f5⟩ := S.own h1
  obtain ⟨b, o', g1, g2, g3, g4, g5⟩ := S.own h2
  cases f3 with
  | lst la =>
    cases g3 with
    | lst lb =>
      refine ⟨_, f1, ?_⟩
      refine ⟨_, g1, ?_⟩
      exact q [] a b _ _ G H (.refl S.s) .nil f2 la g2 lb f4 g4 f5 g5 fun z => ne (S.dj i j a _ _ h1 h2 f1 (by rw [z]; exact g1))
theorem ea2_cons {tr : TA} {d : D} {pre es xs : List D} (h : EvD K te env d) (hr : EvA2 K tr env pre es xs) : EvA2 K (tCons te tr) env (d :: pre) es xs := fun G0 H0 G H σ S Q q =>
  h.v S fun v G1 H1 l1 a1 => hr G0 H0 G1 H1 σ (S.mono l1) _ fun vs a b ws us G2 H2 l2 p1 p2 p3 p4 p5 p6 p7 p8 p9 p10 => q (v :: vs) a b ws us G2 H2 (l1.trans l2) (.cons (a1.mono l2.g) p1) p2 p3 p4 p5 p6 p7 p8 p9 p10
theorem q_retT {ta : TA} {pre es xs : List D} (h : EvA2 K ta env pre es xs) (hl : pre.length + 2 ≤ 100000) (q : R (.rt (.t pre es xs))) : Run K E (tRet (tTup ta)) env R := fun G0 H0 G H σ S Dn f =>
  h G0 H0 G H σ S _ fun vs a b ws us G1 H1 l1 p1 p2 p3 p4 p5 p6 p7 p8 p9 p10 => ⟨by rw [List.length_append, p1.length]; exact Nat.le_trans hl (by decide), fun p hp => by
    have l2 : Le G1 H1 G1 (upd H1 p (.tup (vs ++ [.ref a, .ref b]))) := .newH l1.s hp
    have lt := S.le.trans (l1.trans l2)
    have pa : p ≠ a := fun z => by rw [z, p2] at hp; cases hp
    have pb : p ≠ b := fun z => by rw [z, p4] at hp; cases hp
    exact f _ q (.ref p) G1 _ lt (.t upd_same p1 (l2.h _ _ p2) p3 (l2.h _ _ p4) p5 ⟨l1.s.free hp, p6, p7⟩ ⟨(S.le.trans l1).h.free hp, p8, p9⟩ ⟨p10, pa, pb⟩)⟩
/-- x := f(..); x[m].append(e1); x[m + 1].append(e2), f's answer a new tuple with two new lists at m and m + 1 -/
theorem q_tup2 {P : Pd.R → Prop} {i : Nat} {m : Int} (h : EvP K te env P) (hi : i < env.length)
    (k : ∀ r, P r → ∃ pre es xs d1 d2, r = .t pre es xs ∧ (pre.length : Int) = m ∧ es.length < 100000 ∧ xs.length < 100000 ∧ (∀ a b, EvD K te1 (env.set i (.val (.tup (pre ++ [.cls a, .cls b])))) d1) ∧ (∀ a b, EvD K te2 (env.set i (.val (.tup (pre ++ [.cls a, .cls b])))) d2) ∧
      Run K E u (env.set i (.val (.tup (pre ++ [.lst (es ++ [d1]), .lst (xs ++ [d2])])))) R) :
    Run K E (tSeq (tAsg te (gName i)) (tSeq (tDrop (tBM K "list" rAppend (tOp (rIxT K) (tVar i) (tC (.int m))) (tCons te1 tNil))) (tSeq (tDrop (tBM K "list" rAppend (tOp (rIxT K) (tVar i) (tC (.int (m + 1)))) (tCons te2 tNil))) u))) env R := fun G0 H0 G H σ S Dn f => by
  refine h G0 H0 G H σ S _ fun r pr v G1 H1 l1 a1 => ?_
  obtain ⟨pre, es, xs, d1, d2, rfl, hm, hes, hxs, k1, k2, k3⟩ := k r pr
  cases a1 with
  | t e lp ea la eb lb g n dd =>
    rename_i p a b vs ws us
    obtain ⟨g1, g2, g3⟩ := g
    obtain ⟨n1, n2, n3⟩ := n
    obtain ⟨q1, q2, q3⟩ := dd
    have S1 := S.set (i := i) (r := .v (.tup (pre ++ [.cls a, .cls b]))) (l1.close n1 g1 e) (.v (.tup (.inl (.inl upd_same)) ((lp.mono (same_upd g1)).app (.cons .cls (.cons .cls .nil)))))
    have ga : (upd G1 p (.tup (vs ++ [.ref a, .ref b]))) a = none := by rw [upd_ne (fun z => q2 z.symm)]; exact g2
    have gb : (upd G1 p (.tup (vs ++ [.ref a, .ref b]))) b = none := by rw [upd_ne (fun z => q3 z.symm)]; exact g3
    have la1 := la.mono (same_upd (o := .tup (vs ++ [.ref a, .ref b])) g1)
    have lb1 := lb.mono (same_upd (o := .tup (vs ++ [.ref a, .ref b])) g1)
    have ha0 : H0 a = none := S.le.h.free n2
    have hb0 : H0 b = none := S.le.h.free n3
    have sp : (upd G1 p (.tup (vs ++ [.ref a, .ref b]))) p = some (.tup (vs ++ [.ref a, .ref b])) := upd_same
    have lp1 : AtL K (upd G1 p (.tup (vs ++ [.ref a, .ref b]))) pre vs := lp.mono (same_upd g1)
    have l2 : Le G H (upd G1 p (.tup (vs ++ [.ref a, .ref b]))) H1 := l1.close n1 g1 e
    revert S1 ga gb la1 lb1 sp lp1 l2
    generalize upd G1 p (.tup (vs ++ [.ref a, .ref b])) = G2
    intro S1 ga gb la1 lb1 sp lp1 l2
    have self : (env.set i (.of (.v (.tup (pre ++ [.cls a, .cls b])))))[i]? = some (.val (.tup (pre ++ [.cls a, .cls b]))) := by rw [List.getElem?_set_self hi]; rfl
    -- no own slot holds a or b
    have own : ∀ (c : Addr), H c = none → ∀ (j : Nat) (w : OO), (env.set i (.of (.v (.tup (pre ++ [.cls a, .cls b])))))[j]? = some (.own w) → (σ.set i (some (.ref p)))[j]? ≠ some (some (.ref c)) := fun c hc j w e1 e2 => by
      by_cases hj : i = j
      · subst hj
        rw [List.getElem?_set_self hi] at e1
        cases e1
      · rw [List.getElem?_set_ne hj] at e1 e2
        obtain ⟨l, o, z1, z2, _⟩ := S.own e1
        rw [e2] at z1
        cases z1
        rw [hc] at z2
        cases z2
    have i1 : atI (pre ++ [.cls a, .cls b]) m = some (.cls a) := atI_of (by omega) (by rw [← hm, Int.toNat_natCast, List.getElem?_append_right (Nat.le_refl _), Nat.sub_self]; rfl)
    have i2 : atI (pre ++ [.cls a, .cls b]) (m + 1) = some (.cls b) := atI_of (by omega) (by rw [← hm, show ((pre.length : Int) + 1).toNat = pre.length + 1 by omega, List.getElem?_append_right (Nat.le_succ _), show pre.length + 1 - pre.length = 1 by omega]; rfl)
    have x1 : EvD K (tOp (rIxT K) (tVar i) (tC (.int m))) (env.set i (.of (.v (.tup (pre ++ [.cls a, .cls b]))))) (.cls a) := ev_op (ev_var self) ev_int (o_ixT i1)
    have x2 : EvD K (tOp (rIxT K) (tVar i) (tC (.int (m + 1)))) (env.set i (.of (.v (.tup (pre ++ [.cls a, .cls b]))))) (.cls b) := ev_op (ev_var self) ev_int (o_ixT i2)
    refine x1.v S1 fun v3 G3 H3 l3 a3 => ?_
    cases a3
    refine ⟨.inl ⟨rfl, _, .inl (.inl (l3.h _ _ ea))⟩, ?_⟩
    refine (k1 a b).v (S1.mono l3) fun v4 G4 H4 l4 b4 => ?_
    refine ⟨a, _, v4, rfl, rfl, l4.h _ _ (l3.h _ _ ea), by rw [la.length]; exact Nat.lt_of_lt_of_le hes (by decide), ?_⟩
    have l34 := l3.trans l4
    have ga4 : G4 a = none := l34.n a _ ea ga
    have gb4 : G4 b = none := l34.n b _ eb gb
    have S4 := ((S1.mono l3).mono l4).mutX (o := .lst (ws ++ [v4])) ha0 ga4 (own a n2)
    have eb4 : (upd H4 a (.lst (ws ++ [v4]))) b = some (.lst us) := by rw [upd_ne (fun z => q1 z.symm)]; exact l34.h _ _ eb
    refine x2.v S4 fun v5 G5 H5 l5 a5 => ?_
    cases a5
    refine ⟨.inl ⟨rfl, _, .inl (.inl (l5.h _ _ eb4))⟩, ?_⟩
    refine (k2 a b).v (S4.mono l5) fun v6 G6 H6 l6 b6 => ?_
    refine ⟨b, _, v6, rfl, rfl, l6.h _ _ (l5.h _ _ eb4), by rw [lb.length]; exact Nat.lt_of_lt_of_le hxs (by decide), ?_⟩
    have l56 := l5.trans l6
    have ga6 : G6 a = none := l56.n a _ upd_same ga4
    have gb6 : G6 b = none := l56.n b _ eb4 gb4
    have S6 := ((S4.mono l5).mono l6).mutX (o := .lst (us ++ [v6])) hb0 gb6 (own b n3)
    have ea7 : (upd H6 b (.lst (us ++ [v6]))) a = some (.lst (ws ++ [v4])) := by rw [upd_ne q1]; exact l56.h _ _ upd_same
    obtain ⟨ex, S7⟩ := S6.settle (fun x => decide (x = a) || decide (x = b)) (fun c hc => by
        simp only [Bool.or_eq_true, decide_eq_true_eq] at hc
        rcases hc with z | z <;> subst z
        · exact ga6
        · exact gb6) (fun c hc => by
        simp only [Bool.or_eq_true, decide_eq_true_eq] at hc
        rcases hc with z | z <;> subst z
        · exact ha0
        · exact hb0) (fun j w c e1 hc => by
        simp only [Bool.or_eq_true, decide_eq_true_eq] at hc
        rcases hc with z | z <;> subst z
        · exact own _ n2 j w e1
        · exact own _ n3 j w e1)
    have ta : (Pd.settle G6 (upd H6 b (.lst (us ++ [v6]))) (fun x => decide (x = a) || decide (x = b))) a = some (.lst (ws ++ [v4])) := by
      unfold Pd.settle
      rw [if_pos (by simp), ea7]
    have tb : (Pd.settle G6 (upd H6 b (.lst (us ++ [v6]))) (fun x => decide (x = a) || decide (x = b))) b = some (.lst (us ++ [v6])) := by
      unfold Pd.settle
      rw [if_pos (by simp), upd_same]
    have m2 := (l34.g.trans l56.g).trans ex
    have m4 := l56.g.trans ex
    have S8 := S7.set (i := i) (r := .v (.tup (pre ++ [.lst (es ++ [d1]), .lst (xs ++ [d2])]))) (.refl S7.s) (.v (.tup (.inl (.inl (m2 _ _ sp))) ((lp1.mono m2).app (.cons (.lst ta ((la1.mono m2).app (.cons (b4.mono m4) .nil))) (.cons (.lst tb ((lb1.mono m2).app (.cons (b6.mono ex) .nil))) .nil)))))
    rw [List.set_set, List.set_set] at S8
    exact k3 G0 H0 _ _ _ S8 Dn f
end
end Pd
section
open PySem L2 Pd
local macro_rules | `(tactic| walk_at "lk") => `(tactic| first | rfl)
local macro_rules | `(tactic| walk_at "rl") => `(tactic| fail)
local macro_rules | `(tactic| walk_at "op") => `(tactic| first
  | with_reducible exact o_i | with_reducible exact o_b | with_reducible exact o_eqI | with_reducible exact o_neI | with_reducible exact o_isN | with_reducible exact o_notN
  | with_reducible exact o_neg | with_reducible exact o_eqB | with_reducible exact o_neB
  | with_reducible exact c_int | with_reducible exact c_min | with_reducible exact c_max | with_reducible exact c_lenT | with_reducible exact c_listK
  | ((with_reducible refine' o_ixT ?_); any_goals rfl) | ((with_reducible refine' o_ixL ?_ ?_); any_goals rfl)
  | ((with_reducible refine' c_lenL ?_); any_goals rfl) | ((with_reducible refine' c_listL ?_); any_goals rfl) | with_reducible exact c_listT | ((with_reducible refine' c_tupL ?_); any_goals rfl) | with_reducible exact c_tupT
  | ((with_reducible refine' c_all ?_); any_goals rfl) | ((with_reducible refine' c_any ?_); any_goals rfl) | ((with_reducible refine' c_sortI ?_); any_goals rfl)
  | (with_reducible refine' o_ic ?_))
local macro_rules | `(tactic| walk_at "ev1") => `(tactic| first
  | with_reducible exact ev_int | with_reducible exact ev_bl | with_reducible exact ev_non | with_reducible exact ev_str | with_reducible exact ea_nil
  | with_reducible exact ev_ty | with_reducible exact ev_cls
  | ((with_reducible refine' ev_var ?_); any_goals rfl)
  | with_reducible refine' ea_cons ?_ ?_
  | with_reducible refine' ev_op ?_ ?_ ?_
  | with_reducible refine' ev_un ?_ ?_
  | with_reducible refine' ev_cb ?_ ?_
  | with_reducible refine' ev_tup ?_ ?_
  | with_reducible refine' ev_lst ?_ ?_
  | with_reducible refine' ev_andV ?_ ?_
  | with_reducible refine' ev_orV ?_ ?_
  | with_reducible refine' ev_notV ?_
  | with_reducible refine' ev_chain ?_ ?_ ?_ ?_ ?_
  | with_reducible refine' eb_test ?_
  | with_reducible refine' eb_b ?_
  | with_reducible refine' eb_and ?_ ?_
  | with_reducible refine' eb_or ?_ ?_
  | with_reducible refine' eb_not ?_
  | with_reducible refine' ev_fld ?_ ?_ ?_ ?_
  | with_reducible refine' ev_call ?_ dfl_nil ?_ ?_
  | with_reducible refine' ev_meth ?_ ?_ ?_ dfl_nil ?_ ?_
  | with_reducible refine' ev_sl ?_ ?_ ?_ ?_
  | with_reducible exact eo_none | with_reducible refine' eo_some ?_
  | ((with_reducible refine' s_list ?_); any_goals rfl) | with_reducible exact s_tup
  | ((with_reducible show Cls _ _); assumption) | ((with_reducible show NoAttr _ _ _); assumption)
  | ((with_reducible show List.length _ ≤ 100000); simp; done)
  | ((with_reducible show List.length _ = _); rfl)
  | ((with_reducible show List.length _ + 1 = _); rfl)
  | ((with_reducible show List.lookup _ _ = _); walk_at "lk")
  | ((with_reducible show CDiv _ _); refine ⟨?_, ?_⟩ <;> omega)
  | ((with_reducible show CPow _ _); refine ⟨?_, ?_, ?_⟩ <;> decide)
  | ((with_reducible show CMul _ _); first | (refine .inr ⟨?_, ?_⟩ <;> omega) | (refine .inl ⟨?_, ?_⟩ <;> omega))
  | ((show (0 : Int) < _); omega)
  | ((with_reducible refine' atI_map ?_ ?_) <;> omega)
  | walk_at "op"
  | walk_at "rl"
  | (with_reducible intro _))
local macro_rules | `(tactic| walk_at "ev") => `(tactic| repeat' (walk_at "ev1"))
local macro_rules | `(tactic| walk_at "nrm") => `(tactic| try dsimp only [List.map, List.set, List.cons_append, List.nil_append, List.append_nil, B.of, List.replicate])
namespace K08
open PySem L2 Pd
/-! ### the text by places -/
def topS (i : Nat) : Stmt := PySem.Challenge.pw_pilereach_k08_net_refusals.main.body.getD i (.Pass ⟨0, 0, 0, 0⟩)
abbrev s_fits : Stmt := topS 11
abbrev sc_fits_N : List Str := ["edge", "letters", "nodes"]
theorem sc_fits : FnScope sc_fits_N ["edge", "letters", "nodes"] (defScope s_fits) := ⟨rfl, rfl, rfl, by decide +kernel, rfl, by decide +kernel, by decide +kernel⟩
abbrev s_Net_init : Stmt := inClass (topS 12) 0
abbrev sc_Net_init_N : List Str := ["self", "states", "letters", "nodes", "edges", "ends", "node", "letter", "goal", "edge", "end"]
theorem sc_Net_init : FnScope sc_Net_init_N ["self", "states", "letters", "nodes", "edges", "ends"] (defScope s_Net_init) := ⟨rfl, rfl, rfl, by decide +kernel, rfl, by decide +kernel, by decide +kernel⟩
abbrev s__law_numbers : Stmt := topS 14
abbrev sc__law_numbers_N : List Str := ["_law_script", "_law_count", "_law_rest", "_law_by_digits", "_law_numbers_here", "_law_k", "_law_cell", "_law_mixed"]
theorem sc__law_numbers : FnScope sc__law_numbers_N ["_law_script", "_law_count"] (defScope s__law_numbers) := ⟨rfl, rfl, rfl, by decide +kernel, rfl, by decide +kernel, by decide +kernel⟩
abbrev s__law_parts : Stmt := topS 15
abbrev sc__law_parts_N : List Str := ["_law_numbers_here", "_law_at", "_law_sizes", "_law_flat", "_law_states", "_law_letters", "_law_nodes", "_law_low", "_law_edges", "_law_k", "_law_number", "_law_rest", "_law_ends", "_law_node"]
theorem sc__law_parts : FnScope sc__law_parts_N ["_law_numbers_here", "_law_at", "_law_sizes", "_law_flat"] (defScope s__law_parts) := ⟨rfl, rfl, rfl, by decide +kernel, rfl, by decide +kernel, by decide +kernel⟩
abbrev s__law_is_number : Stmt := topS 16
abbrev sc__law_is_number_N : List Str := ["_law_x"]
theorem sc__law_is_number : FnScope sc__law_is_number_N ["_law_x"] (defScope s__law_is_number) := ⟨rfl, rfl, rfl, by decide +kernel, rfl, by decide +kernel, by decide +kernel⟩
abbrev s__law_are_numbers : Stmt := topS 17
abbrev sc__law_are_numbers_N : List Str := ["_law_xs", "_law_x"]
theorem sc__law_are_numbers : FnScope sc__law_are_numbers_N ["_law_xs"] (defScope s__law_are_numbers) := ⟨rfl, rfl, rfl, by decide +kernel, rfl, by decide +kernel, by decide +kernel⟩
abbrev s__law_once : Stmt := topS 18
abbrev sc__law_once_N : List Str := ["_law_rows", "_law_found", "_law_row"]
theorem sc__law_once : FnScope sc__law_once_N ["_law_rows"] (defScope s__law_once) := ⟨rfl, rfl, rfl, by decide +kernel, rfl, by decide +kernel, by decide +kernel⟩
abbrev s__law_kept : Stmt := topS 19
abbrev sc__law_kept_N : List Str := ["_law_net", "_law_parts_here", "_law_edge"]
theorem sc__law_kept : FnScope sc__law_kept_N ["_law_net", "_law_parts_here"] (defScope s__law_kept) := ⟨rfl, rfl, rfl, by decide +kernel, rfl, by decide +kernel, by decide +kernel⟩
abbrev s__law_outside : Stmt := topS 20
abbrev sc__law_outside_N : List Str := ["_law_number", "_law_limit"]
theorem sc__law_outside : FnScope sc__law_outside_N ["_law_number", "_law_limit"] (defScope s__law_outside) := ⟨rfl, rfl, rfl, by decide +kernel, rfl, by decide +kernel, by decide +kernel⟩
abbrev s__law_placed : Stmt := topS 21
abbrev sc__law_placed_N : List Str := ["_law_rows", "_law_row", "_law_number", "_law_cut"]
theorem sc__law_placed : FnScope sc__law_placed_N ["_law_rows", "_law_row", "_law_number"] (defScope s__law_placed) := ⟨rfl, rfl, rfl, by decide +kernel, rfl, by decide +kernel, by decide +kernel⟩
abbrev s__law_spoilt : Stmt := topS 22
abbrev sc__law_spoilt_N : List Str := ["_law_parts_here", "_law_kind", "_law_numbers_here", "_law_at", "_law_states", "_law_letters", "_law_nodes", "_law_edges", "_law_ends", "_law_far", "_law_fewer", "_law_end"]
theorem sc__law_spoilt : FnScope sc__law_spoilt_N ["_law_parts_here", "_law_kind", "_law_numbers_here", "_law_at"] (defScope s__law_spoilt) := ⟨rfl, rfl, rfl, by decide +kernel, rfl, by decide +kernel, by decide +kernel⟩
abbrev s_law : Stmt := topS 23
abbrev sc_law_N : List Str := ["_law_script", "_law_numbers_here", "_law_sizes", "_law_parts_here", "_law_kind", "_law_due", "_law_passed", "_law_net", "e"]
theorem sc_law : FnScope sc_law_N ["_law_script"] (defScope s_law) := ⟨rfl, rfl, rfl, by decide +kernel, rfl, by decide +kernel, by decide +kernel⟩
/-! ### what the top holds -/
structure Txt (K : PySem.W.Frag) (mg : Str → Option Value) where
  b_ValueError : mg "ValueError" = none
  b_all : mg "all" = none
  b_bool : mg "bool" = none
  b_int : mg "int" = none
  b_isinstance : mg "isinstance" = none
  b_len : mg "len" = none
  b_list : mg "list" = none
  b_range : mg "range" = none
  b_set : mg "set" = none
  b_sorted : mg "sorted" = none
  b_tuple : mg "tuple" = none
  c_PileError : Addr
  m_PileError : mg "PileError" = some (.ref c_PileError)
  c_InvalidMachine : Addr
  m_InvalidMachine : mg "InvalidMachine" = some (.ref c_InvalidMachine)
  c_InvalidNet : Addr
  m_InvalidNet : mg "InvalidNet" = some (.ref c_InvalidNet)
  c_Mismatch : Addr
  m_Mismatch : mg "Mismatch" = some (.ref c_Mismatch)
  c_NotPlain : Addr
  m_NotPlain : mg "NotPlain" = some (.ref c_NotPlain)
  c_NoStep : Addr
  m_NoStep : mg "NoStep" = some (.ref c_NoStep)
  c_InvalidProgram : Addr
  m_InvalidProgram : mg "InvalidProgram" = some (.ref c_InvalidProgram)
  c_InvalidText : Addr
  m_InvalidText : mg "InvalidText" = some (.ref c_InvalidText)
  c_Net : Addr
  m_Net : mg "Net" = some (.ref c_Net)
  cl_Net : Cls K c_Net
  n_Net_states : NoAttr K c_Net "states"
  n_Net_letters : NoAttr K c_Net "letters"
  n_Net_nodes : NoAttr K c_Net "nodes"
  n_Net_edges : NoAttr K c_Net "edges"
  n_Net_ends : NoAttr K c_Net "ends"
  n_Net__goals : NoAttr K c_Net "_goals"
  x_InvalidNet : PySem.W.excIn K c_InvalidNet [.type "ValueError", .type "Exception", .type "BaseException", .type "object"] "ValueError.__new__" = true
  kx_InvalidNet : PySem.W.keepIn K (.ref c_InvalidNet) = true
  bx_InvalidNet : PySem.W.subIn K (.ref c_InvalidNet) (.type "BaseException") = some true
  tx_InvalidNet : PySem.W.typeIn K (.ref c_InvalidNet) = some (.type "type")
  em_InvalidNet : PySem.W.exmOne K (.ref c_InvalidNet) (.ref c_InvalidNet) = some true
  ec_InvalidNet : ExcC K c_InvalidNet
  ic_Net : IsC K c_Net
  ki_InvalidNet_InvalidMachine : PySem.W.kitOne K (.ref c_InvalidNet) (.ref c_InvalidMachine) = some false
  ki_InvalidNet_InvalidProgram : PySem.W.kitOne K (.ref c_InvalidNet) (.ref c_InvalidProgram) = some false
  ki_InvalidNet_InvalidText : PySem.W.kitOne K (.ref c_InvalidNet) (.ref c_InvalidText) = some false
  ki_InvalidNet_Mismatch : PySem.W.kitOne K (.ref c_InvalidNet) (.ref c_Mismatch) = some false
  ki_InvalidNet_NoStep : PySem.W.kitOne K (.ref c_InvalidNet) (.ref c_NoStep) = some false
  ki_InvalidNet_NotPlain : PySem.W.kitOne K (.ref c_InvalidNet) (.ref c_NotPlain) = some false
  ki_InvalidNet_PileError : PySem.W.kitOne K (.ref c_InvalidNet) (.ref c_PileError) = some true
  ki_InvalidNet_ValueError : PySem.W.kitOne K (.ref c_InvalidNet) (.type "ValueError") = some true
  ki_Net_Net : PySem.W.kitOne K (.ref c_Net) (.ref c_Net) = some true
  a_fits : Addr
  fd_fits : FuncData
  F_fits : Fun K "fits" "fits" s_fits a_fits fd_fits
  k_fits : PySem.W.keepIn K (.ref a_fits) = true
  m_fits : mg "fits" = some (.ref a_fits)
  bd_fits : Binds K fd_fits ["edge", "letters", "nodes"] []
  a_Net_init : Addr
  fd_Net_init : FuncData
  F_Net_init : Fun K "__init__" "Net.__init__" s_Net_init a_Net_init fd_Net_init
  k_Net_init : PySem.W.keepIn K (.ref a_Net_init) = true
  mk_Net : Mk K c_Net a_Net_init
  bd_Net_init : Binds K fd_Net_init ["self", "states", "letters", "nodes", "edges", "ends"] []
  a__law_numbers : Addr
  fd__law_numbers : FuncData
  F__law_numbers : Fun K "_law_numbers" "_law_numbers" s__law_numbers a__law_numbers fd__law_numbers
  k__law_numbers : PySem.W.keepIn K (.ref a__law_numbers) = true
  m__law_numbers : mg "_law_numbers" = some (.ref a__law_numbers)
  bd__law_numbers : Binds K fd__law_numbers ["_law_script", "_law_count"] []
  a__law_parts : Addr
  fd__law_parts : FuncData
  F__law_parts : Fun K "_law_parts" "_law_parts" s__law_parts a__law_parts fd__law_parts
  k__law_parts : PySem.W.keepIn K (.ref a__law_parts) = true
  m__law_parts : mg "_law_parts" = some (.ref a__law_parts)
  bd__law_parts : Binds K fd__law_parts ["_law_numbers_here", "_law_at", "_law_sizes", "_law_flat"] []
  a__law_is_number : Addr
  fd__law_is_number : FuncData
  F__law_is_number : Fun K "_law_is_number" "_law_is_number" s__law_is_number a__law_is_number fd__law_is_number
  k__law_is_number : PySem.W.keepIn K (.ref a__law_is_number) = true
  m__law_is_number : mg "_law_is_number" = some (.ref a__law_is_number)
  bd__law_is_number : Binds K fd__law_is_number ["_law_x"] []
  a__law_are_numbers : Addr
  fd__law_are_numbers : FuncData
  F__law_are_numbers : Fun K "_law_are_numbers" "_law_are_numbers" s__law_are_numbers a__law_are_numbers fd__law_are_numbers
  k__law_are_numbers : PySem.W.keepIn K (.ref a__law_are_numbers) = true
  m__law_are_numbers : mg "_law_are_numbers" = some (.ref a__law_are_numbers)
  bd__law_are_numbers : Binds K fd__law_are_numbers ["_law_xs"] []
  a__law_once : Addr
  fd__law_once : FuncData
  F__law_once : Fun K "_law_once" "_law_once" s__law_once a__law_once fd__law_once
  k__law_once : PySem.W.keepIn K (.ref a__law_once) = true
  m__law_once : mg "_law_once" = some (.ref a__law_once)
  bd__law_once : Binds K fd__law_once ["_law_rows"] []
  a__law_kept : Addr
  fd__law_kept : FuncData
  F__law_kept : Fun K "_law_kept" "_law_kept" s__law_kept a__law_kept fd__law_kept
  k__law_kept : PySem.W.keepIn K (.ref a__law_kept) = true
  m__law_kept : mg "_law_kept" = some (.ref a__law_kept)
  bd__law_kept : Binds K fd__law_kept ["_law_net", "_law_parts_here"] []
  a__law_outside : Addr
  fd__law_outside : FuncData
  F__law_outside : Fun K "_law_outside" "_law_outside" s__law_outside a__law_outside fd__law_outside
  k__law_outside : PySem.W.keepIn K (.ref a__law_outside) = true
  m__law_outside : mg "_law_outside" = some (.ref a__law_outside)
  bd__law_outside : Binds K fd__law_outside ["_law_number", "_law_limit"] []
  a__law_placed : Addr
  fd__law_placed : FuncData
  F__law_placed : Fun K "_law_placed" "_law_placed" s__law_placed a__law_placed fd__law_placed
  k__law_placed : PySem.W.keepIn K (.ref a__law_placed) = true
  m__law_placed : mg "_law_placed" = some (.ref a__law_placed)
  bd__law_placed : Binds K fd__law_placed ["_law_rows", "_law_row", "_law_number"] []
  a__law_spoilt : Addr
  fd__law_spoilt : FuncData
  F__law_spoilt : Fun K "_law_spoilt" "_law_spoilt" s__law_spoilt a__law_spoilt fd__law_spoilt
  k__law_spoilt : PySem.W.keepIn K (.ref a__law_spoilt) = true
  m__law_spoilt : mg "_law_spoilt" = some (.ref a__law_spoilt)
  bd__law_spoilt : Binds K fd__law_spoilt ["_law_parts_here", "_law_kind", "_law_numbers_here", "_law_at"] []
  a_law : Addr
  fd_law : FuncData
  F_law : Fun K "law" "law" s_law a_law fd_law
  k_law : PySem.W.keepIn K (.ref a_law) = true
  m_law : mg "law" = some (.ref a_law)
  bd_law : Binds K fd_law ["_law_script"] []

structure NetS where
  s : Int
  l : Int
  n : Int
  es : List Edge
  ends : List Int
def netF (N : NetS) : List (Str × D) := [("states", .int N.s), ("letters", .int N.l), ("nodes", .int N.n), ("edges", .tup (N.es.map encE)), ("ends", .tup (N.ends.map D.int)), ("_goals", .dT (goalsD N.es))]
abbrev netD (C : Addr) (N : NetS) : D := .ins C (netF N)
/-- the nodes at which the edges from n with the letter l end -/
def goalsF (es : List Edge) (n l : Int) : List Int := (es.filter fun e => decide (e.1 = n ∧ e.2.1 = l)).map fun e => e.2.2
def movedF (es : List Edge) (ns : List Int) (l : Int) : List Int := usort ltI (ns.flatMap fun n => goalsF es n l)
def endF (ends ns : List Int) : Bool := ns.any fun n => decide (n ∈ ends)
def runF (es : List Edge) (p : List Int) (ns : List Int) : List Int := p.foldl (movedF es) ns
def acceptsF (N : NetS) (s : Int) (p : List Int) : Bool := endF N.ends (runF N.es p [s])
def fitsB (e : Edge) (l n : Int) : Bool := decide (0 ≤ e.1) && decide (e.1 < n) && (decide (0 ≤ e.2.1) && decide (e.2.1 < l) && (decide (0 ≤ e.2.2) && decide (e.2.2 < n)))
def rl_fits (ds : List D) (P : Pd.R → Prop) : Prop := ∃ (e : Edge) (l n : Int), ds = [encE e, .int l, .int n] ∧ P = (· = .v (.bl (fitsB e l n)))
theorem fits_mk {e : Edge} {l n : Int} : rl_fits [encE e, .int l, .int n] (· = .v (.bl (fitsB e l n))) := ⟨e, l, n, rfl, rfl⟩
structure NetOk (s l n : Int) (es : List Edge) (ends : List Int) : Prop where
  s1 : 1 ≤ s
  l1 : 1 ≤ l
  n1 : s ≤ n
  fit : ∀ e ∈ es, fitsB e l n = true
  en : ∀ x ∈ ends, 0 ≤ x ∧ x < n
  few : es.length < 64
  fewE : ends.length < 4000
def netOf (s l n : Int) (es : List Edge) (ends : List Int) : NetS := ⟨s, l, n, usort ltE es, usort ltI ends⟩
def rl_Net_init (ds : List D) (fs : List (Str × D)) : Prop := ∃ (s l n : Int) (es : List Edge) (ends : List Int), ds = [.int s, .int l, .int n, .lst (es.map encE), .lst (ends.map D.int)] ∧ NetOk s l n es ends ∧ fs = netF (netOf s l n es ends)
def rl_Net_goals (C : Addr) (ds : List D) (P : Pd.R → Prop) : Prop := ∃ (N : NetS) (n l : Int), ds = [netD C N, .int n, .int l] ∧ P = (· = .n (.lst ((goalsF N.es n l).map D.int)))
theorem goals_mk {C : Addr} {N : NetS} {n l : Int} : rl_Net_goals C [netD C N, .int n, .int l] (· = .n (.lst ((goalsF N.es n l).map D.int))) := ⟨N, n, l, rfl, rfl⟩
def rl_Net_moved (C : Addr) (ds : List D) (P : Pd.R → Prop) : Prop := ∃ (N : NetS) (ns : List Int) (l : Int), ds = [netD C N, .tup (ns.map D.int), .int l] ∧ N.es.length ≤ 10000 ∧ P = (· = .v (.tup ((movedF N.es ns l).map D.int)))
def rl_Net_has_end (C : Addr) (ds : List D) (P : Pd.R → Prop) : Prop := ∃ (N : NetS) (ns : List Int), ds = [netD C N, .tup (ns.map D.int)] ∧ ns.length ≤ 20000 ∧ P = (· = .v (.bl (endF N.ends ns)))
def rl_Net_accepts (C : Addr) (ds : List D) (P : Pd.R → Prop) : Prop := ∃ (N : NetS) (s : Int) (p : List Int), ds = [netD C N, .tup [.int s, .tup (p.map D.int)]] ∧ N.es.length ≤ 10000 ∧ P = (· = .v (.bl (acceptsF N s p)))
theorem goalsD_get (es : List Edge) (n l : Int) : (((goalsD es).find? fun kv => decide (kv.1 = [n, l].map Sum.inl)).map (·.2)).getD (.lst []) = .lst ((goalsF es n l).map D.int) := by
  unfold goalsF
  rw [← gOf_goals]
  unfold goalsD
  induction goalsOf es with
  | nil => rfl
  | cons p r ih =>
    rw [show List.map (fun p : List Key × List Int => (p.1, D.lst (p.2.map D.int))) (p :: r) = (p.1, D.lst (p.2.map D.int)) :: r.map (fun p => (p.1, D.lst (p.2.map D.int))) from rfl, List.find?_cons]
    unfold gOf
    by_cases h : p.1 = kE n l
    · rw [if_pos h, decide_eq_true (show (p.1 : List Key) = [n, l].map Sum.inl from h)]
      rfl
    · rw [if_neg h, decide_eq_false (show ¬ (p.1 : List Key) = [n, l].map Sum.inl from h)]
      exact ih
theorem movedF_len (es : List Edge) (ns : List Int) (l : Int) : (movedF es ns l).length ≤ es.length := by
  have nd : (movedF es ns l).Nodup := (usort_sorted linI _).imp fun {a b} h => by
    rw [decide_eq_true_eq] at h
    omega
  have := nodup_len (ys := es.map fun e => e.2.2) nd fun x hx => by
    obtain ⟨n, _, m2⟩ := List.mem_flatMap.mp ((mem_usort linI).mp hx)
    obtain ⟨e, he, e2⟩ := List.mem_map.mp m2
    exact List.mem_map.mpr ⟨e, (List.mem_filter.mp he).1, e2⟩
  rw [List.length_map] at this
  exact this
theorem runF_len (es : List Edge) : ∀ (p ns : List Int), (runF es p ns).length ≤ ns.length + es.length
  | [], ns => Nat.le_add_right _ _
  | l :: p, ns => by
    have h1 := runF_len es p (movedF es ns l)
    have h2 : ∀ (p : List Int) (l : Int) (ns : List Int), (runF es (p ++ [l]) ns).length ≤ es.length := fun p l ns => by
      unfold runF
      rw [List.foldl_append]
      exact movedF_len _ _ _
    have h3 : ∀ (p : List Int) (ns : List Int), p ≠ [] → (runF es p ns).length ≤ es.length := fun p ns hp => by
      rw [← List.dropLast_concat_getLast hp]
      exact h2 _ _ _
    have := h3 (l :: p) ns (by simp)
    omega
theorem fit_iff {e : Edge} {l n : Int} : fitsB e l n = true ↔ ((0 ≤ e.1 ∧ e.1 < n) ∧ (0 ≤ e.2.1 ∧ e.2.1 < l) ∧ (0 ≤ e.2.2 ∧ e.2.2 < n)) := by
  unfold fitsB
  simp only [Bool.and_eq_true, decide_eq_true_eq]
/-- _law_numbers -/
def rl__law_numbers (ds : List D) (P : Pd.R → Prop) : Prop := ∃ (sc : List Int) (n : Int), ds = [.sls (sc.map D.int), .int n] ∧ sc.length ≤ 63 ∧ 0 ≤ n ∧ n ≤ 1000 ∧
  P = fun r => ∃ ns : List Int, r = .n (.lst (ns.map D.int)) ∧ (ns.length : Int) = n ∧ ∀ x ∈ ns, 0 ≤ x ∧ x < 1000000
abbrev partsD (s l n : Int) (es : List Edge) (ends : List Int) : D := .tup [.int s, .int l, .int n, .lst (es.map encE), .lst (ends.map D.int)]
structure PartsOk (s l n : Int) (es : List Edge) (ends : List Int) : Prop where
  fit : ∀ e ∈ es, fitsB e l n = true
  en : ∀ x ∈ ends, 0 ≤ x ∧ x < n
/-- the parts: a new tuple with two new lists -/
def rl__law_parts (ds : List D) (P : Pd.R → Prop) : Prop := ∃ (ns : List Int) (at0 a b c d : Int) (flat : Bool), ds = [.lst (ns.map D.int), .int at0, .lst [.int a, .int b, .int c, .int d], .bl flat] ∧
  1 ≤ a ∧ a ≤ 100 ∧ 1 ≤ b ∧ b ≤ 200 ∧ 0 ≤ c ∧ c ≤ 100 ∧ 0 ≤ d ∧ d ≤ 62 ∧ 0 ≤ at0 ∧ at0 + 1 + d ≤ ns.length ∧ (∀ x ∈ ns, 0 ≤ x ∧ x < 1000000) ∧
  P = fun r => ∃ (es : List Edge) (ends : List Int), r = .t [.int a, .int b, .int (a + c)] (es.map encE) (ends.map D.int) ∧ PartsOk a b (a + c) es ends ∧ (es.length : Int) ≤ d ∧ (ends.length : Int) ≤ a + c ∧ (flat = true → ∀ e ∈ es, a ≤ e.2.2)
def rl__law_is_number (ds : List D) (P : Pd.R → Prop) : Prop := ∃ i : Int, ds = [.int i] ∧ P = (· = .v (.bl true))
def rl__law_are_numbers (ds : List D) (P : Pd.R → Prop) : Prop := ∃ ns : List Int, ds = [.tup (ns.map D.int)] ∧ P = (· = .v (.bl true))
def rl__law_once (ds : List D) (P : Pd.R → Prop) : Prop := (∃ es : List Edge, ds = [.lst (es.map encE)] ∧ es.length < 64 ∧ (∀ e ∈ es, (0 ≤ e.1 ∧ e.1 < 1000000) ∧ (0 ≤ e.2.1 ∧ e.2.1 < 1000000) ∧ (0 ≤ e.2.2 ∧ e.2.2 < 1000000)) ∧ P = (· = .v (.tup ((usort ltE es).map encE)))) ∨
  (∃ ns : List Int, ds = [.lst (ns.map D.int)] ∧ ns.length ≤ 4000 ∧ P = (· = .v (.tup ((usort ltI ns).map D.int))))
def rl__law_kept (C : Addr) (ds : List D) (P : Pd.R → Prop) : Prop := ∃ (s l n : Int) (es : List Edge) (ends : List Int), ds = [netD C (netOf s l n es ends), partsD s l n es ends] ∧ NetOk s l n es ends ∧ l ≤ 1000 ∧ n ≤ 1000 ∧ P = (· = .v (.bl true))
def badN (s l n : Int) : Bool := decide (s < 1) || (decide (l < 1) || decide (n < s))
def badE (l n : Int) (es : List Edge) (ends : List Int) : Bool := (!(es.map fun e => fitsB e l n).all id) || (!(ends.map fun x => decide (0 ≤ x) && decide (x < n)).all id)
def mkN (CI : Addr) (s l n : Int) (es : List Edge) (ends : List Int) : Mkd := if badN s l n || badE l n es ends then .no CI else .ok (netF (netOf s l n es ends))
def rl_Net_initX (CI : Addr) (ds : List D) (r : Mkd) : Prop := ∃ (s l n : Int) (es : List Edge) (ends : List Int), ds = [.int s, .int l, .int n, .lst (es.map encE), .lst (ends.map D.int)] ∧ es.length < 64 ∧ ends.length < 4000 ∧ r = mkN CI s l n es ends
def outF (a lim : Int) : Int := if a % 2 = 1 then -1 - a / 2 % 3 else lim + a / 2 % 3
def rl__law_outside (ds : List D) (P : Pd.R → Prop) : Prop := ∃ a lim : Int, ds = [.int a, .int lim] ∧ P = (· = .v (.int (outF a lim)))
def cutN {α : Type} (rs : List α) (k : Int) : Nat := (k % ((rs.length : Int) + 1)).toNat
def placeF {α : Type} (rs : List α) (r : α) (k : Int) : List α := rs.take (cutN rs k) ++ [r] ++ rs.drop (cutN rs k)
def rl__law_placed (ds : List D) (P : Pd.R → Prop) : Prop := ∃ (rs : List D) (r : D) (k : Int), ds = [.lst rs, r, .int k] ∧ rs.length ≤ 1000 ∧ P = (· = .n (.lst (placeF rs r k)))
def rl__law_spoilt (ds : List D) (P : Pd.R → Prop) : Prop := ∃ (s l n : Int) (es : List Edge) (ends : List Int) (kind : Int) (ns : List Int), ds = [partsD s l n es ends, .int kind, .lst (ns.map D.int), .int 16] ∧ NetOk s l n es ends ∧ es.length < 60 ∧ ends.length < 1000 ∧ 0 ≤ kind ∧ kind ≤ 9 ∧ 18 ≤ ns.length ∧
  P = fun r => ∃ (s' l' n' : Int) (es' : List Edge) (ends' : List Int), r = .v (partsD s' l' n' es' ends') ∧ es'.length < 64 ∧ ends'.length < 4000 ∧ ((kind < 2 ∧ s' = s ∧ l' = l ∧ n' = n ∧ es' = es ∧ ends' = ends) ∨ (2 ≤ kind ∧ (badN s' l' n' || badE l' n' es' ends') = true))
def rl_law (ds : List D) (P : Pd.R → Prop) : Prop := ∃ ns : List Int, ds = [.sls (ns.map D.int)] ∧ ns.length ≤ 63 ∧ P = (· = .v (.bl true))
section
variable {K : PySem.W.Frag} {E : XK} {env : Pd.Env} {tt : TT} {t u : TS} {R : Out → Prop}
theorem cut_hi {ds : List D} {i : Int} (h0 : 0 ≤ i) (h1 : i ≤ ds.length) : cutD ds none (some i) = ds.take i.toNat := by
  unfold cutD HT.sIx
  dsimp only
  rw [if_neg (by omega), List.drop_zero, Nat.sub_zero, Nat.min_eq_left (by omega)]
theorem cut_lo {ds : List D} {i : Int} (h0 : 0 ≤ i) (h1 : i ≤ ds.length) : cutD ds (some i) none = ds.drop i.toNat := by
  unfold cutD HT.sIx
  dsimp only
  rw [if_neg (by omega), Nat.min_eq_left (by omega), List.take_of_length_le (by rw [List.length_drop]; exact Nat.le_refl _)]
/-- if c: return ..; what follows -/
theorem q_ifR {b : Bool} (h : EvB K tt env b) (h1 : b = true → Run K E t env (fun o => ∃ r, o = .rt r ∧ R (.rt r))) (k : b = false → Run K E u env R) : Run K E (tSeq (tIfS tt t tNext) u) env R :=
  q_seq (R1 := fun o => (b = false ∧ o = .nx env) ∨ (∃ r, o = .rt r ∧ R (.rt r))) (q_if h (fun hb => (h1 hb).post fun o z => .inr z) (fun hb => q_nil (.inl ⟨hb, rfl⟩))) (fun e q => by
    rcases q with ⟨hb, e0⟩ | ⟨r, e0, _⟩
    · cases e0; exact k hb
    · cases e0) fun o q hn => by
    rcases q with ⟨hb, e0⟩ | ⟨r, e0, q⟩
    · exact (hn _ e0).elim
    · rw [e0]; exact q
end
theorem cutN_le {α : Type} (rs : List α) (k : Int) : cutN rs k ≤ rs.length := by
  unfold cutN
  have := emod_bd (a := k) (b := (rs.length : Int) + 1) (by omega)
  omega
theorem place_map {α : Type} {f : α → D} (rs : List α) (r : α) (k : Int) : placeF (rs.map f) (f r) k = (placeF rs r k).map f := by
  unfold placeF cutN
  rw [List.length_map, List.map_append, List.map_append, List.map_take, List.map_drop]
  rfl
theorem place_mem {α : Type} (rs : List α) (r : α) (k : Int) : r ∈ placeF rs r k := by
  unfold placeF
  simp
theorem place_len {α : Type} (rs : List α) (r : α) (k : Int) : (placeF rs r k).length = rs.length + 1 := by
  unfold placeF
  have := cutN_le rs k
  simp only [List.length_append, List.length_take, List.length_drop, List.length_singleton]
  omega
theorem badE_e {l n : Int} {es : List Edge} {ends : List Int} {e : Edge} (h : e ∈ es) (hb : fitsB e l n = false) : badE l n es ends = true := by
  unfold badE
  have : (es.map fun e => fitsB e l n).all id = false := by
    rw [Bool.eq_false_iff]
    intro z
    have := List.all_eq_true.mp z (fitsB e l n) (List.mem_map.mpr ⟨e, h, rfl⟩)
    rw [hb] at this
    cases this
  rw [this]
  rfl
theorem badE_x {l n : Int} {es : List Edge} {ends : List Int} {x : Int} (h : x ∈ ends) (hb : ¬ (0 ≤ x ∧ x < n)) : badE l n es ends = true := by
  unfold badE
  have : (ends.map fun x => decide (0 ≤ x) && decide (x < n)).all id = false := by
    rw [Bool.eq_false_iff]
    intro z
    have := List.all_eq_true.mp z (decide (0 ≤ x) && decide (x < n)) (List.mem_map.mpr ⟨x, h, rfl⟩)
    simp only [id, Bool.and_eq_true, decide_eq_true_eq] at this
    exact hb this
  rw [this, Bool.or_comm]
  rfl
theorem outF_out (a lim : Int) (h : 0 ≤ lim) : ¬ (0 ≤ outF a lim ∧ outF a lim < lim) := by
  unfold outF
  split <;> omega
theorem netOk_of {s l n : Int} {es : List Edge} {ends : List Int} (h1 : badN s l n = false) (h2 : badE l n es ends = false) (f1 : es.length < 64) (f2 : ends.length < 4000) : NetOk s l n es ends := by
  unfold badN at h1
  simp only [Bool.or_eq_false_iff, decide_eq_false_iff_not] at h1
  refine ⟨by omega, by omega, by omega, fun e he => ?_, fun x hx => ?_, f1, f2⟩
  · cases hf : fitsB e l n with
    | true => rfl
    | false => rw [badE_e he hf] at h2; cases h2
  · by_cases hx' : 0 ≤ x ∧ x < n
    · exact hx'
    · rw [badE_x hx hx'] at h2
      cases h2
theorem netOk_bad {s l n : Int} {es : List Edge} {ends : List Int} (ok : NetOk s l n es ends) : (badN s l n || badE l n es ends) = false := by
  have c1 := ok.s1
  have c2 := ok.l1
  have c3 := ok.n1
  have h1 : badN s l n = false := by
    unfold badN
    simp only [Bool.or_eq_false_iff, decide_eq_false_iff_not]
    omega
  have h2 : badE l n es ends = false := by
    unfold badE
    have q1 : (es.map fun e => fitsB e l n).all id = true := List.all_eq_true.mpr fun b hb => by
      obtain ⟨e, he, rfl⟩ := List.mem_map.mp hb
      exact ok.fit e he
    have q2 : (ends.map fun x => decide (0 ≤ x) && decide (x < n)).all id = true := List.all_eq_true.mpr fun b hb => by
      obtain ⟨e, he, rfl⟩ := List.mem_map.mp hb
      have := ok.en e he
      simp [this.1, this.2]
    rw [q1, q2]
    rfl
  rw [h1, h2]
  rfl
theorem fits_out {a b c l n : Int} (h : ¬ (0 ≤ a ∧ a < n) ∨ ¬ (0 ≤ b ∧ b < l) ∨ ¬ (0 ≤ c ∧ c < n)) : fitsB (a, b, c) l n = false := by
  cases hf : fitsB (a, b, c) l n with
  | false => rfl
  | true =>
    obtain ⟨h1, h2, h3⟩ := fit_iff.mp hf
    rcases h with h | h | h
    · exact (h h1).elim
    · exact (h h2).elim
    · exact (h h3).elim
end K08
namespace K08
open PySem L2 Pd
section
variable {P : Program} {w : World} {K : PySem.W.Frag} {mg : Str → Option Value} {base : Heap}

theorem ok_fits (T : Txt K mg) : FnOk P w K mg base CX0 1 T.a_fits T.fd_fits ["edge", "letters", "nodes"] (spF K 3 rl_fits) := by
  refine T.F_fits.ok sc_fits spF_len (fun cdv A outer s H vs Q E hr h => ?_)
  refine ⟨_, (pss_one (ps_ret (pe_and (pe_chain op_le op_lt pe_int (pe_ix (kix_tup K) (pv 0) pe_int (fun _ _ => rfl)) (pv 2)) (pe_and (pe_chain op_le op_lt pe_int (pe_ix (kix_tup K) (pv 0) pe_int (fun _ _ => rfl)) (pv 1)) (pe_one (pe_chain op_le op_lt pe_int (pe_ix (kix_tup K) (pv 0) pe_int (fun _ _ => rfl)) (pv 2))))))), ?_⟩
  -- slots: 0 edge, 1 letters, 2 nodes
  refine body_of [] h (fun ds P0 hl hr => ?_)
  obtain ⟨e, l, n, rfl, rfl⟩ := hr
  walk_at "nrm"
  refine' q_ret ?_ (.inl ⟨_, rfl, rfl⟩)
  unfold fitsB
  walk_at "ev"
end
end K08
namespace K08
open PySem L2 Pd
section
variable {P : Program} {w : World} {K : PySem.W.Frag} {mg : Str → Option Value} {base : Heap}

theorem ok_Net_init (T : Txt K mg) : FnOk P w K mg base (L2.CX P w) 2 T.a_Net_init T.fd_Net_init ["self", "states", "letters", "nodes", "edges", "ends"] (spX K T.c_Net 6 (rl_Net_initX T.c_InvalidNet)) := by
  have G_fits := ok_fits (P := P) (w := w) (base := base) T
  refine T.F_Net_init.okX sc_Net_init spX_len (fun cdv A outer s H vs Q E hr h => ?_)
  refine ⟨_, (pss_cons (ps_if (PT.nox (PW.pt (pw_or (pt_cmpR op_lt (pv 1) pe_int (nomark _)) (pw_or (pt_cmpR op_lt (pv 2) pe_int (nomark _)) (pw_or1 (pt_cmpR op_lt (pv 3) (pv 1) (nomark _))))))) (pss_one (ps_raise rfl (takes_of rfl rfl rfl rfl) (pmk_own PySem.F.excBase_ValueError T.x_InvalidNet T.m_InvalidNet T.kx_InvalidNet (raises_own T.bx_InvalidNet T.tx_InvalidNet) (by exact rfl)))) pss_nil)
      (pss_cons (ps_if (PT.nox (PW.pt (pw_or (pt_not (pt_val (pe_callB (kcr_all K rfl) (by rfl) T.b_all (by decide +kernel) (pa_cons (pe_lc (own := [("edge", 9)]) rfl sc_Net_init.nd (kpi_list K (pv 4)) (blkOk_by (own := [("edge", 9)]) (N := sc_Net_init_N) (sc := defScope s_Net_init) (by decide +kernel)) (fun _ _ _ _ _ => (pg_name (i := 9) sc_Net_init.nd rfl (Or.inl rfl))) (fun _ _ _ _ _ => pts_nil) (fun _ _ _ _ _ => (pe_call G_fits hr (by rfl) T.m_fits T.k_fits T.bd_fits .nil pass0 (pa_cons (pv 9) (pa_cons (pv 2) (pa_cons (pv 3) pa_nil)))))) pa_nil)))) (pw_or1 (pt_not (pt_val (pe_callB (kcr_all K rfl) (by rfl) T.b_all (by decide +kernel) (pa_cons (pe_lc (own := [("end", 10)]) rfl sc_Net_init.nd (kpi_list K (pv 5)) (blkOk_by (own := [("end", 10)]) (N := sc_Net_init_N) (sc := defScope s_Net_init) (by decide +kernel)) (fun _ _ _ _ _ => (pg_name (i := 10) sc_Net_init.nd rfl (Or.inl rfl))) (fun _ _ _ _ _ => pts_nil) (fun _ _ _ _ _ => (pe_chain op_le op_lt pe_int (pv 10) (pv 3)))) pa_nil)))))))) (pss_one (ps_raise rfl (takes_of rfl rfl rfl rfl) (pmk_own PySem.F.excBase_ValueError T.x_InvalidNet T.m_InvalidNet T.kx_InvalidNet (raises_own T.bx_InvalidNet T.tx_InvalidNet) (by exact rfl)))) pss_nil)
      (PSs.nox (pss_cons (ps_fld (pv 0) (pv 1) rfl)
      (pss_cons (ps_fld (pv 0) (pv 2) rfl)
      (pss_cons (ps_fld (pv 0) (pv 3) rfl)
      (pss_cons (ps_fld (pv 0) (pe_callTy (kcall_tuple_of K) (by rfl) T.b_tuple (by decide +kernel) (pa_cons (pe_callB (cr_sortedT rfl) (by rfl) T.b_sorted (by decide +kernel) (pa_cons (pe_callTy (cr_setOfT rfl hr.units) (by rfl) T.b_set (by decide +kernel) (pa_cons (pv 4) pa_nil)) pa_nil)) pa_nil)) rfl)
      (pss_cons (ps_fld (pv 0) (pe_callTy (kcall_tuple_of K) (by rfl) T.b_tuple (by decide +kernel) (pa_cons (pe_callB (cr_sortedSI rfl) (by rfl) T.b_sorted (by decide +kernel) (pa_cons (pe_callTy (cr_setOfI rfl) (by rfl) T.b_set (by decide +kernel) (pa_cons (pv 5) pa_nil)) pa_nil)) pa_nil)) rfl)
      (pss_cons (ps_fld (pv 0) pe_dnewT rfl)
      (pss_one (ps_for PassesOwn.never rfl (kpi_tup K (kpe_fld K (pv 0) rfl)) (pg_tup rfl (pgs_cons (pg_name (i := 6) sc_Net_init.nd rfl (Or.inl rfl)) (pgs_cons (pg_name (i := 7) sc_Net_init.nd rfl (Or.inl rfl)) (pgs_cons (pg_name (i := 8) sc_Net_init.nd rfl (Or.inl rfl)) pgs_nil)))) (pss_one (ps_expr (pe_bm PySem.F.plainAttrs_list PySem.F.slot_list_append PySem.F.type_list_append mt_append (pe_dsetT (hu_of hr) (kpe_fld K (pv 0) rfl) (pe_tup (pa_cons (pv 6) (pa_cons (pv 7) pa_nil))) (pe_lst pa_nil) ⟨rfl, rfl, rfl, rfl⟩) (pa_cons (pv 8) pa_nil))))))))))))))), ?_⟩
  -- slots: 0 self, 1 states, 2 letters*, 3 nodes*, 4 edges, 5 ends, 6 node, 7 letter, 8 goal, 9 edge, 10 end
  refine init_ofX [.no, .no, .no, .no, .no] h (fun ds r hl hr x => ?_)
  obtain ⟨s0, l, n, es, ends, rfl, few, fewE, rfl⟩ := hr
  have clN := T.cl_Net
  walk_at "nrm"
  refine q_seq (R1 := fun o => (badN s0 l n = true ∧ o = .rs T.c_InvalidNet) ∨ (badN s0 l n = false ∧ o = .nx [.own (.ins x T.c_Net []), .val (.int s0), .val (.int l), .val (.int n), .val (.lst (es.map encE)), .val (.lst (ends.map D.int)), .no, .no, .no, .no, .no])) (q_if (b := badN s0 l n) ?_ (fun hb => r_raise (.inl ⟨hb, rfl⟩)) (fun hb => q_nil (.inr ⟨hb, rfl⟩))) ?_ ?_
  · unfold badN
    walk_at "ev"
  rotate_left
  · rintro o (⟨hb, rfl⟩ | ⟨_, rfl⟩) hn
    · refine .inr ⟨_, ?_, rfl⟩
      unfold mkN
      rw [hb]
      rfl
    · exact (hn _ rfl).elim
  rintro e (⟨_, e0⟩ | ⟨hbN, e0⟩)
  · cases e0
  cases e0
  refine q_seq (R1 := fun o => (badE l n es ends = true ∧ o = .rs T.c_InvalidNet) ∨ (badE l n es ends = false ∧ o = .nx [.own (.ins x T.c_Net []), .val (.int s0), .val (.int l), .val (.int n), .val (.lst (es.map encE)), .val (.lst (ends.map D.int)), .no, .no, .no, .no, .no])) (q_if (b := badE l n es ends) ?_ (fun hb => r_raise (.inl ⟨hb, rfl⟩)) (fun hb => q_nil (.inr ⟨hb, rfl⟩))) ?_ ?_
  · unfold badE
    refine eb_or (eb_not (eb_b (ev_cb (ea_cons (Ev.d (ev_lcY (enc := encE) (xs := es) (fun e => .bl (fitsB e l n)) (i_list (ev_var rfl) rfl) (by omega) fun e he => ⟨_, _, t_name, by simp, ?_⟩)) ea_nil) (c_all (by simp [R.d, OO.d, isSeq])))))
      fun _ => eb_not (eb_b (ev_cb (ea_cons (Ev.d (ev_lcY (enc := D.int) (xs := ends) (fun x => .bl (decide (0 ≤ x) && decide (x < n))) (i_list (ev_var rfl) rfl) (by omega) fun e he => ⟨_, _, t_name, by simp, ?_⟩)) ea_nil) (c_all (by simp [R.d, OO.d, isSeq]))))
    · walk_at "nrm"
      exact ev_call (ea_cons (ev_var rfl) (ea_cons (ev_var rfl) (ea_cons (ev_var rfl) ea_nil))) dfl_nil fits_mk rfl
    · walk_at "nrm"
      walk_at "ev"
  rotate_left
  · rintro o (⟨hb, rfl⟩ | ⟨_, rfl⟩) hn
    · refine .inr ⟨_, ?_, rfl⟩
      unfold mkN
      rw [hb, Bool.or_true]
      rfl
    · exact (hn _ rfl).elim
  rintro e (⟨_, e0⟩ | ⟨hbE, e0⟩)
  · cases e0
  cases e0
  have ok := netOk_of hbN hbE few fewE
  have hmk : mkN T.c_InvalidNet s0 l n es ends = .ok (netF (netOf s0 l n es ends)) := by
    unfold mkN
    rw [hbN, hbE]
    rfl
  let en : List (Str × D) → Pd.Env := fun fs => [.own (.ins x T.c_Net fs), .val (.int s0), .val (.int l), .val (.int n), .val (.lst (es.map encE)), .val (.lst (ends.map D.int)), .no, .no, .no, .no, .no]
  refine q_then (e := en [("states", .int s0)]) (r_fld rfl (ev_var rfl) clN T.n_Net_states (by simp) rfl) ?_
  refine q_then (e := en [("states", .int s0), ("letters", .int l)]) (r_fld rfl (ev_var rfl) clN T.n_Net_letters (by simp) rfl) ?_
  refine q_then (e := en [("states", .int s0), ("letters", .int l), ("nodes", .int n)]) (r_fld rfl (ev_var rfl) clN T.n_Net_nodes (by simp) rfl) ?_
  have hB : ∀ e ∈ es, (0 ≤ e.1 ∧ e.1 < n + l) ∧ (0 ≤ e.2.1 ∧ e.2.1 < n + l) ∧ (0 ≤ e.2.2 ∧ e.2.2 < n + l) := fun e he => by
    have := fit_iff.mp (ok.fit e he)
    omega
  refine q_then (e := en [("states", .int s0), ("letters", .int l), ("nodes", .int n), ("edges", .tup ((usort ltE es).map encE))])
    (r_fld rfl (ev_cb (ea_cons (Ev.d (ev_sortSetE (ev_var rfl) rfl hB few)) ea_nil) (c_tupL rfl)) clN T.n_Net_edges (by simp) rfl) ?_
  refine q_then (e := en [("states", .int s0), ("letters", .int l), ("nodes", .int n), ("edges", .tup ((usort ltE es).map encE)), ("ends", .tup ((usort ltI ends).map D.int))])
    (r_fld rfl (ev_cb (ea_cons (Ev.d (ev_sortSetI (ev_var rfl) rfl fewE)) ea_nil) (c_tupL rfl)) clN T.n_Net_ends (by simp) rfl) ?_
  have ul : (usort ltE es).length ≤ 100000 := Nat.le_trans (usort_length linE es) (by omega)
  refine Run.post (net_goals (es := usort ltE es) (te := tDNewT) (tt := tDNewT) (ta := tDNewT) (tl := tDNewT) rfl (fun i o hi => ?_) rfl (show 9 ≤ 11 by decide) ul clN T.n_Net_edges T.n_Net__goals (show 5 < 900 by decide)) fun o ⟨e, h1, h2⟩ => .inl ⟨_, e, hmk, h1, h2⟩
  match i, hi with
  | 0, _ => rfl
  | 1, hi => cases hi
  | 2, hi => cases hi
  | 3, hi => cases hi
  | 4, hi => cases hi
  | 5, hi => cases hi
  | 6, hi => cases hi
  | 7, hi => cases hi
  | 8, hi => cases hi
  | 9, hi => cases hi
  | 10, hi => cases hi
  | i + 11, hi => cases hi
end
end K08
namespace K08
open PySem L2 Pd
section
variable {P : Program} {w : World} {K : PySem.W.Frag} {mg : Str → Option Value} {base : Heap}

theorem ok__law_numbers (T : Txt K mg) : FnOk P w K mg base CX0 1 T.a__law_numbers T.fd__law_numbers ["_law_script", "_law_count"] (spF K 2 rl__law_numbers) := by
  refine T.F__law_numbers.ok sc__law_numbers spF_len (fun cdv A outer s H vs Q E hr h => ?_)
  refine ⟨_, (pss_cons (ps_set (i := 2) sc__law_numbers.nd rfl (Or.inl rfl) pe_int)
      (pss_cons (ps_if (pt_cmpR op_gt (pe_callB (kcall_len_seq K) (by rfl) T.b_len PySem.boot_len (pa_cons (pv 0) pa_nil)) pe_int (nomark _)) (pss_one (ps_set (i := 2) sc__law_numbers.nd rfl (Or.inl rfl) (pe_ix (kix_list K) (pv 0) pe_int (fun _ _ => rfl)))) pss_nil)
      (pss_cons (ps_set (i := 3) sc__law_numbers.nd rfl (Or.inl rfl) (pe_cmpR op_ge (pv 2) (pe_op op_pow pe_int pe_int) (nomark _)))
      (pss_cons (ps_set (i := 4) sc__law_numbers.nd rfl (Or.inl rfl) (pe_lst pa_nil))
      (pss_cons (ps_for PassesOwn.never rfl (pi_range1 (by rfl) T.b_range (pa_cons (pv 1) pa_nil)) (pg_name (i := 5) sc__law_numbers.nd rfl (Or.inl rfl)) (pss_one (ps_if (PW.pt (pw_and (pt_val (pv 3)) (pw_and1 (pt_cmpR op_gt (pv 2) pe_int (nomark _))))) (pss_cons (ps_expr (pe_bm PySem.F.plainAttrs_list PySem.F.slot_list_append PySem.F.type_list_append mt_append (pv 4) (pa_cons (pe_op op_mod (pe_callTy call_int1 (by rfl) T.b_int (by decide +kernel) (pa_cons (pv 2) pa_nil)) pe_int) pa_nil)))
      (pss_one (ps_set (i := 2) sc__law_numbers.nd rfl (Or.inl rfl) (pe_op op_fdiv (pv 2) pe_int)))) (pss_cons (ps_set (i := 6) sc__law_numbers.nd rfl (Or.inl rfl) pe_int)
      (pss_cons (ps_if (pt_cmpR op_gt (pe_callB (kcall_len_seq K) (by rfl) T.b_len PySem.boot_len (pa_cons (pv 0) pa_nil)) pe_int (nomark _)) (pss_one (ps_set (i := 6) sc__law_numbers.nd rfl (Or.inl rfl) (pe_op op_add (pe_ix (kix_list K) (pv 0) (pe_op op_mod (pe_callTy call_int1 (by rfl) T.b_int (by decide +kernel) (pa_cons (pv 5) pa_nil)) (pe_callB (kcall_len_seq K) (by rfl) T.b_len PySem.boot_len (pa_cons (pv 0) pa_nil))) (fun _ _ => rfl)) (pe_op op_mul pe_int (pv 5))))) pss_nil)
      (pss_cons (ps_set (i := 7) sc__law_numbers.nd rfl (Or.inl rfl) (pe_op op_mod (pe_callTy call_int1 (by rfl) T.b_int (by decide +kernel) (pa_cons (pe_op op_mul (pv 6) pe_int) pa_nil)) pe_int))
      (pss_one (ps_expr (pe_bm PySem.F.plainAttrs_list PySem.F.slot_list_append PySem.F.type_list_append mt_append (pv 4) (pa_cons (pe_op op_mod (pe_callTy call_int1 (by rfl) T.b_int (by decide +kernel) (pa_cons (pe_op op_mod (pe_callTy call_int1 (by rfl) T.b_int (by decide +kernel) (pa_cons (pe_op op_mul (pv 7) pe_int) pa_nil)) pe_int) pa_nil)) pe_int) pa_nil))))))))))
      (pss_one (ps_ret (pv 4)))))))), ?_⟩
  -- slots: 0 _law_script, 1 _law_count, 2 _law_rest, 3 _law_by_digits, 4 _law_numbers_here, 5 _law_k, 6 _law_cell, 7 _law_mixed
  refine body_of [.no, .no, .no, .no, .no, .no] h (fun ds P0 hl hr => ?_)
  obtain ⟨sc, n, rfl, hsc, hn0, hn1, rfl⟩ := hr
  walk_at "nrm"
  refine q_asg ev_int ?_
  walk_at "nrm"
  -- the first item of the script, if there is one
  refine q_seq (R1 := fun o => ∃ r : Int, o = .nx [.val (.sls (sc.map D.int)), .val (.int n), .val (.int r), .no, .no, .no, .no, .no]) (q_if (b := decide (0 < (sc.length : Int))) ?_ (fun hb => ?_) (fun hb => ?_)) ?_ ?_
  · refine EvB.is (b := decide (0 < ((sc.map D.int).length : Int))) ?_ (by rw [List.length_map])
    walk_at "ev"
  · have hb' := of_decide_eq_true hb
    exact r_asg (ev_op (ev_var rfl) ev_int (o_ixL (atI_map (by omega) (by omega)) rfl)) ⟨_, rfl⟩
  · exact q_nil ⟨0, rfl⟩
  rotate_left
  · rintro o ⟨r, rfl⟩ hn
    exact (hn _ rfl).elim
  rintro e ⟨r, e0⟩
  cases e0
  refine' q_asg (r := .v (.bl (decide (10 ^ (18 : Int).toNat ≤ r)))) ?_ ?_
  · walk_at "ev"
  generalize decide (10 ^ (18 : Int).toNat ≤ r) = bd
  walk_at "nrm"
  refine q_asg (ev_lst ea_nil (by simp)) ?_
  walk_at "nrm"
  let en : Int → List Int → B → B → B → Pd.Env := fun r ns b5 b6 b7 => [.val (.sls (sc.map D.int)), .val (.int n), .val (.int r), .val (.bl bd), .own (.lst (ns.map D.int)), b5, b6, b7]
  let W : Nat → Pd.Env → Prop := fun i e => ∃ r ns b5 b6 b7, e = en r ns b5 b6 b7 ∧ ns.length = i ∧ ∀ x ∈ ns, 0 ≤ x ∧ x < 1000000
  refine q_seq (R1 := fun o => ∃ e, o = .nx e ∧ W n.toNat e) (q_for W (i_rng1 (ea_cons (ev_var rfl) ea_nil) (by omega) (by omega)) ⟨r, [], .no, .no, .no, rfl, rfl, by simp⟩ ?_ ?_) ?_ ?_
  · rintro i d e hd ⟨r, ns, b5, b6, b7, rfl, hl, hb⟩
    obtain ⟨hi, rfl⟩ := rng_at_ hd
    refine ⟨_, _, t_name, ?_⟩
    generalize hk : (0 : Int) + (i : Int) = k
    have hk0 : 0 ≤ k := by omega
    have hk1 : k ≤ 1000 := by omega
    walk_at "nrm"
    have fin : ∀ (x r' : Int) (b6 b7 : B), 0 ≤ x ∧ x < 1000000 → W (i + 1) [.val (.sls (sc.map D.int)), .val (.int n), .val (.int r'), .val (.bl bd), .own (.lst (ns.map D.int ++ [D.int x])), .val (.int k), b6, b7] := fun x r' b6 b7 hx => ⟨r', ns ++ [x], .val (.int k), b6, b7, by rw [map_snoc], by rw [List.length_append, hl]; rfl, all_snoc hb hx⟩
    refine q_if (b := bd && decide (0 < r)) ?_ (fun _ => ?_) (fun _ => ?_)
    · walk_at "ev"
    · refine q_then (r_app (d := .int (r % 1000000)) rfl ?_ (by rw [List.length_map]; omega) rfl) ?_
      · walk_at "ev"
      · refine' r_asg (r := .v (.int (r / 1000000))) ?_ ?_
        · walk_at "ev"
        · show W (i + 1) _
          exact fin (r % 1000000) (r / 1000000) b6 b7 (emod_bd (by decide))
    · refine q_asg ev_int ?_
      walk_at "nrm"
      refine q_seq (R1 := fun o => ∃ c : Int, o = .nx (en r ns (.val (.int k)) (.val (.int c)) b7)) (q_if (b := decide (0 < (sc.length : Int))) ?_ (fun hb => ?_) (fun hb => ?_)) ?_ ?_
      · refine EvB.is (b := decide (0 < ((sc.map D.int).length : Int))) ?_ (by rw [List.length_map])
        walk_at "ev"
      · have hb' := of_decide_eq_true hb
        have hm := emod_bd (a := k) hb'
        refine r_asg (r := .v (.int (getI sc (k % (sc.length : Int)) + 7919 * k))) (ev_op (ev_op (ev_var rfl) (y := .int (k % ((sc.map D.int).length : Int))) ?_ (o_ixL (d := .int (getI sc (k % (sc.length : Int)))) ?_ rfl)) (y := .int (7919 * k)) ?_ o_i) ⟨_, rfl⟩
        · refine' ev_op ?_ ?_ (o_ic (by rw [List.length_map]; exact hb'))
          · walk_at "ev"
          · walk_at "ev"
        · rw [List.length_map]
          exact atI_map hm.1 hm.2
        · walk_at "ev"
      · exact q_nil ⟨_, rfl⟩
      · rintro e ⟨c, e0⟩
        cases e0
        refine' q_asg (r := .v (.int (c * 48271 % 2147483647))) ?_ ?_
        · walk_at "ev"
        walk_at "nrm"
        refine r_app (d := .int (c * 48271 % 2147483647 * 69621 % 2147483629 % 1000000)) rfl ?_ (by rw [List.length_map]; omega) ?_
        · walk_at "ev"
        · show W (i + 1) _
          exact fin (c * 48271 % 2147483647 * 69621 % 2147483629 % 1000000) r (.val (.int c)) (.val (.int (c * 48271 % 2147483647))) (emod_bd (by decide))
      · rintro o ⟨c, rfl⟩ hn
        exact (hn _ rfl).elim
  · rintro e w
    rw [List.length_map, rng_length] at w
    exact ⟨e, rfl, w⟩
  · rintro e ⟨e', e0, r, ns, b5, b6, b7, rfl, hl, hb⟩
    cases e0
    exact q_retO rfl (.inl ⟨_, ⟨ns, rfl, by omega, hb⟩, rfl⟩)
  · rintro o ⟨e, rfl, _⟩ hn
    exact (hn _ rfl).elim
end
end K08
namespace K08
open PySem L2 Pd
section
variable {P : Program} {w : World} {K : PySem.W.Frag} {mg : Str → Option Value} {base : Heap}

theorem ok__law_parts (T : Txt K mg) : FnOk P w K mg base CX0 1 T.a__law_parts T.fd__law_parts ["_law_numbers_here", "_law_at", "_law_sizes", "_law_flat"] (spF K 4 rl__law_parts) := by
  refine T.F__law_parts.ok sc__law_parts spF_len (fun cdv A outer s H vs Q E hr h => ?_)
  refine ⟨_, (pss_cons (ps_set (i := 4) sc__law_parts.nd rfl (Or.inl rfl) (pe_ix (kix_list K) (pv 2) pe_int (fun _ _ => rfl)))
      (pss_cons (ps_set (i := 5) sc__law_parts.nd rfl (Or.inl rfl) (pe_ix (kix_list K) (pv 2) pe_int (fun _ _ => rfl)))
      (pss_cons (ps_set (i := 6) sc__law_parts.nd rfl (Or.inl rfl) (pe_op op_add (pv 4) (pe_ix (kix_list K) (pv 2) pe_int (fun _ _ => rfl))))
      (pss_cons (ps_set (i := 7) sc__law_parts.nd rfl (Or.inl rfl) pe_int)
      (pss_cons (ps_if (pt_val (pv 3)) (pss_one (ps_set (i := 7) sc__law_parts.nd rfl (Or.inl rfl) (pv 4))) pss_nil)
      (pss_cons (ps_set (i := 8) sc__law_parts.nd rfl (Or.inl rfl) (pe_lst pa_nil))
      (pss_cons (ps_for PassesOwn.never rfl (pi_range1 (by rfl) T.b_range (pa_cons (pe_ix (kix_list K) (pv 2) pe_int (fun _ _ => rfl)) pa_nil)) (pg_name (i := 9) sc__law_parts.nd rfl (Or.inl rfl)) (pss_cons (ps_set (i := 10) sc__law_parts.nd rfl (Or.inl rfl) (pe_ix (kix_list K) (pv 0) (pe_op op_add (pe_op op_add (pv 1) pe_int) (pv 9)) (fun _ _ => rfl)))
      (pss_one (ps_if (pt_cmpR op_lt (pv 7) (pv 6) (nomark _)) (pss_cons (ps_set (i := 11) sc__law_parts.nd rfl (Or.inl rfl) (pe_op op_fdiv (pv 10) (pv 6)))
      (pss_one (ps_expr (pe_bm PySem.F.plainAttrs_list PySem.F.slot_list_append PySem.F.type_list_append mt_append (pv 8) (pa_cons (pe_tup (pa_cons (pe_op op_mod (pe_callTy call_int1 (by rfl) T.b_int (by decide +kernel) (pa_cons (pv 10) pa_nil)) (pv 6)) (pa_cons (pe_op op_mod (pe_callTy call_int1 (by rfl) T.b_int (by decide +kernel) (pa_cons (pv 11) pa_nil)) (pv 5)) (pa_cons (pe_op op_add (pv 7) (pe_op op_mod (pe_callTy call_int1 (by rfl) T.b_int (by decide +kernel) (pa_cons (pe_op op_fdiv (pv 11) (pv 5)) pa_nil)) (pe_op op_sub (pv 6) (pv 7)))) pa_nil)))) pa_nil))))) pss_nil))))
      (pss_cons (ps_set (i := 12) sc__law_parts.nd rfl (Or.inl rfl) (pe_lst pa_nil))
      (pss_cons (ps_set (i := 11) sc__law_parts.nd rfl (Or.inl rfl) (pe_ix (kix_list K) (pv 0) (pv 1) (fun _ _ => rfl)))
      (pss_cons (ps_for PassesOwn.never rfl (pi_range1 (by rfl) T.b_range (pa_cons (pv 6) pa_nil)) (pg_name (i := 13) sc__law_parts.nd rfl (Or.inl rfl)) (pss_cons (ps_if (pt_cmpR op_eq (pe_op op_mod (pe_callTy call_int1 (by rfl) T.b_int (by decide +kernel) (pa_cons (pv 11) pa_nil)) pe_int) pe_int (nomark _)) (pss_one (ps_expr (pe_bm PySem.F.plainAttrs_list PySem.F.slot_list_append PySem.F.type_list_append mt_append (pv 12) (pa_cons (pv 13) pa_nil)))) pss_nil)
      (pss_cons (ps_set (i := 11) sc__law_parts.nd rfl (Or.inl rfl) (pe_op op_fdiv (pv 11) pe_int))
      (pss_one (ps_if (pt_cmpR op_eq (pv 11) pe_int (nomark _)) (pss_one (ps_set (i := 11) sc__law_parts.nd rfl (Or.inl rfl) (pe_op op_add (pe_op op_mul pe_int (pv 13)) pe_int))) pss_nil)))))
      (pss_one (ps_ret (pe_tup (pa_cons (pv 4) (pa_cons (pv 5) (pa_cons (pv 6) (pa_cons (pv 8) (pa_cons (pv 12) pa_nil)))))))))))))))))), ?_⟩
  -- slots: 0 _law_numbers_here, 1 _law_at, 2 _law_sizes, 3 _law_flat, 4 _law_states, 5 _law_letters, 6 _law_nodes, 7 _law_low, 8 _law_edges, 9 _law_k, 10 _law_number, 11 _law_rest, 12 _law_ends, 13 _law_node
  refine body_of [.no, .no, .no, .no, .no, .no, .no, .no, .no, .no] h (fun ds P0 hl hr => ?_)
  obtain ⟨ns, at0, a, b, c, d, flat, rfl, ha, ha2, hb, hb2, hc, hc2, hd, hd2, hat, hlen, hns, rfl⟩ := hr
  walk_at "nrm"
  refine q_asg (ev_op (ev_var rfl) ev_int (o_ixL (ds := [.int a, .int b, .int c, .int d]) (d := .int a) rfl)) ?_
  walk_at "nrm"
  refine q_asg (ev_op (ev_var rfl) ev_int (o_ixL (ds := [.int a, .int b, .int c, .int d]) (d := .int b) rfl)) ?_
  walk_at "nrm"
  refine q_asg (r := .v (.int (a + c))) (ev_op (ev_var rfl) (ev_op (ev_var rfl) ev_int (o_ixL (ds := [.int a, .int b, .int c, .int d]) (d := .int c) rfl)) o_i) ?_
  walk_at "nrm"
  refine q_asg ev_int ?_
  walk_at "nrm"
  let en0 : Int → Pd.Env := fun lo => [.val (.lst (ns.map D.int)), .val (.int at0), .val (.lst [.int a, .int b, .int c, .int d]), .val (.bl flat), .val (.int a), .val (.int b), .val (.int (a + c)), .val (.int lo), .no, .no, .no, .no, .no, .no]
  refine q_seq (R1 := fun o => ∃ lo, o = .nx (en0 lo) ∧ 0 ≤ lo ∧ lo ≤ a ∧ (flat = true → lo = a)) (q_if (b := flat) (eb_test (ev_var rfl)) (fun hf => r_asg (ev_var rfl) ⟨a, rfl, by omega, by omega, fun _ => rfl⟩) (fun hf => q_nil ⟨0, rfl, by omega, by omega, fun z => by rw [hf] at z; cases z⟩)) ?_ ?_
  rotate_left
  · rintro o ⟨lo, rfl, _⟩ hn
    exact (hn _ rfl).elim
  rintro e ⟨lo, e0, lo0, lo1, lof⟩
  cases e0
  dsimp only [en0]
  refine q_asg (ev_lst ea_nil (by simp)) ?_
  walk_at "nrm"
  let en : List Edge → B → B → B → Pd.Env := fun es b9 b10 b11 => [.val (.lst (ns.map D.int)), .val (.int at0), .val (.lst [.int a, .int b, .int c, .int d]), .val (.bl flat), .val (.int a), .val (.int b), .val (.int (a + c)), .val (.int lo), .own (.lst (es.map encE)), b9, b10, b11, .no, .no]
  let W : Nat → Pd.Env → Prop := fun i e => ∃ es b9 b10 b11, e = en es b9 b10 b11 ∧ es.length ≤ i ∧ ∀ x ∈ es, fitsB x b (a + c) = true ∧ lo ≤ x.2.2
  refine q_seq (R1 := fun o => ∃ e, o = .nx e ∧ W d.toNat e) (q_for W (i_rng1 (n := d) (ea_cons (ev_op (ev_var rfl) ev_int (o_ixL (ds := [.int a, .int b, .int c, .int d]) (d := .int d) rfl)) ea_nil) (by omega) (by omega)) ⟨[], .no, .no, .no, rfl, Nat.le_refl _, by simp⟩ ?_ ?_) ?_ ?_
  · rintro i x e hx ⟨es, b9, b10, b11, rfl, hel, hes⟩
    obtain ⟨hi, rfl⟩ := rng_at_ hx
    refine ⟨_, _, t_name, ?_⟩
    generalize hk : (0 : Int) + (i : Int) = k
    have hk0 : 0 ≤ k := by omega
    have hk1 : k < d := by omega
    walk_at "nrm"
    refine q_asg (r := .v (.int (getI ns (at0 + 1 + k)))) (ev_op (ev_var rfl) (y := .int (at0 + 1 + k)) ?_ (o_ixL (ds := ns.map D.int) (atI_map (by omega) (by omega)) rfl)) ?_
    · walk_at "ev"
    walk_at "nrm"
    generalize getI ns (at0 + 1 + k) = m
    refine q_if (b := decide (lo < a + c)) ?_ (fun hlt => ?_) (fun _ => ?_)
    · walk_at "ev"
    · have hlt' := of_decide_eq_true hlt
      refine' q_asg (r := .v (.int (m / (a + c)))) ?_ ?_
      · walk_at "ev"
      walk_at "nrm"
      refine r_app (d := encE (m % (a + c), m / (a + c) % b, lo + m / (a + c) / b % (a + c - lo))) rfl ?_ (by rw [List.length_map]; omega) ?_
      · dsimp only [encE]
        walk_at "ev"
      · have e1 := emod_bd (a := m) (b := a + c) (by omega)
        have e2 := emod_bd (a := m / (a + c)) (b := b) (by omega)
        have e3 := emod_bd (a := m / (a + c) / b) (b := a + c - lo) (by omega)
        exact ⟨es ++ [(m % (a + c), m / (a + c) % b, lo + m / (a + c) / b % (a + c - lo))], _, _, _, by rw [map_snoc]; rfl, by rw [List.length_append, List.length_singleton]; omega, all_snoc hes ⟨fit_iff.mpr ⟨⟨e1.1, e1.2⟩, ⟨e2.1, e2.2⟩, ⟨by dsimp only; omega, by dsimp only; omega⟩⟩, by dsimp only; omega⟩⟩
    · exact q_nil ⟨es, _, _, _, rfl, by omega, hes⟩
  · rintro e w
    rw [List.length_map, rng_length] at w
    exact ⟨e, rfl, w⟩
  rotate_left
  · rintro o ⟨e, rfl, _⟩ hn
    exact (hn _ rfl).elim
  rintro e ⟨e', e0, es, b9, b10, b11, rfl, hel, hes⟩
  cases e0
  dsimp only [en]
  refine q_asg (ev_lst ea_nil (by simp)) ?_
  walk_at "nrm"
  refine q_asg (r := .v (.int (getI ns at0))) (ev_op (ev_var rfl) (ev_var rfl) (o_ixL (ds := ns.map D.int) (atI_map (by omega) (by omega)) rfl)) ?_
  walk_at "nrm"
  generalize getI ns at0 = r0
  let en2 : List Int → Int → B → Pd.Env := fun xs r b13 => [.val (.lst (ns.map D.int)), .val (.int at0), .val (.lst [.int a, .int b, .int c, .int d]), .val (.bl flat), .val (.int a), .val (.int b), .val (.int (a + c)), .val (.int lo), .own (.lst (es.map encE)), b9, b10, .val (.int r), .own (.lst (xs.map D.int)), b13]
  let W2 : Nat → Pd.Env → Prop := fun i e => ∃ xs r b13, e = en2 xs r b13 ∧ xs.length ≤ i ∧ ∀ x ∈ xs, 0 ≤ x ∧ x < a + c
  refine q_seq (R1 := fun o => ∃ e, o = .nx e ∧ W2 (a + c).toNat e) (q_for W2 (i_rng1 (n := a + c) (ea_cons (ev_var rfl) ea_nil) (by omega) (by omega)) ⟨[], r0, .no, rfl, Nat.le_refl _, by simp⟩ ?_ ?_) ?_ ?_
  · rintro i x e hx ⟨xs, r, b13, rfl, hxl, hxs⟩
    obtain ⟨hi, rfl⟩ := rng_at_ hx
    refine ⟨_, _, t_name, ?_⟩
    generalize hk : (0 : Int) + (i : Int) = k
    have hk0 : 0 ≤ k := by omega
    have hk1 : k < a + c := by omega
    walk_at "nrm"
    refine q_seq (R1 := fun o => ∃ ys, o = .nx (en2 ys r (.val (.int k))) ∧ ys.length ≤ i + 1 ∧ ∀ x ∈ ys, 0 ≤ x ∧ x < a + c) (q_if (b := decide (r % 2 = 1)) ?_ (fun _ => ?_) (fun _ => ?_)) ?_ ?_
    · walk_at "ev"
    · exact r_app (d := .int k) rfl (ev_var rfl) (by rw [List.length_map]; omega) ⟨xs ++ [k], by rw [map_snoc]; rfl, by rw [List.length_append, List.length_singleton]; omega, all_snoc hxs ⟨hk0, hk1⟩⟩
    · exact q_nil ⟨xs, rfl, by omega, hxs⟩
    · rintro e ⟨ys, e0, hyl, hys⟩
      cases e0
      dsimp only [en2]
      refine' q_asg (r := .v (.int (r / 2))) ?_ ?_
      · walk_at "ev"
      walk_at "nrm"
      refine q_if (b := decide (r / 2 = 0)) ?_ (fun _ => ?_) (fun _ => ?_)
      · walk_at "ev"
      · refine' r_asg (r := .v (.int (5 * k + 3))) ?_ ⟨ys, _, _, rfl, hyl, hys⟩
        walk_at "ev"
      · exact q_nil ⟨ys, _, _, rfl, hyl, hys⟩
    · rintro o ⟨ys, rfl, _⟩ hn
      exact (hn _ rfl).elim
  · rintro e w
    rw [List.length_map, rng_length] at w
    exact ⟨e, rfl, w⟩
  · rintro e ⟨e', e0, xs, r, b13, rfl, hxl, hxs⟩
    cases e0
    dsimp only [en2]
    refine q_retT (ea2_cons (ev_var rfl) (ea2_cons (ev_var rfl) (ea2_cons (ev_var rfl) (ea2_own (i := 8) (j := 12) rfl rfl (by decide))))) (by simp) (.inl ⟨_, ⟨es, xs, rfl, ⟨fun e he => (hes e he).1, hxs⟩, by omega, by omega, fun hf e he => ?_⟩, rfl⟩)
    have := (hes e he).2
    rw [lof hf] at this
    exact this
  · rintro o ⟨e, rfl, _⟩ hn
    exact (hn _ rfl).elim
end
end K08
namespace K08
open PySem L2 Pd
section
variable {P : Program} {w : World} {K : PySem.W.Frag} {mg : Str → Option Value} {base : Heap}

theorem ok__law_is_number (T : Txt K mg) : FnOk P w K mg base CX0 1 T.a__law_is_number T.fd__law_is_number ["_law_x"] (spF K 1 rl__law_is_number) := by
  refine T.F__law_is_number.ok sc__law_is_number spF_len (fun cdv A outer s H vs Q E hr h => ?_)
  refine ⟨_, (pss_one (ps_ret (pe_and (pe_callB (kcall_isi K) (by rfl) T.b_isinstance (by decide +kernel) (pa_cons (pv 0) (pa_cons (pe_bltn (v := .ty "int") (by rfl) T.b_int (by decide +kernel) rfl) pa_nil))) (pe_one (pe_not (pe_callB (kcall_isi K) (by rfl) T.b_isinstance (by decide +kernel) (pa_cons (pv 0) (pa_cons (pe_bltn (v := .ty "bool") (by rfl) T.b_bool (by decide +kernel) rfl) pa_nil)))))))), ?_⟩
  -- slots: 0 _law_x
  refine body_of [] h (fun ds P0 hl hr => ?_)
  obtain ⟨i, rfl, rfl⟩ := hr
  walk_at "nrm"
  refine' q_ret (r := .v (.bl (true && !false))) ?_ (.inl ⟨_, rfl, rfl⟩)
  exact ev_andV (ev_cb (ea_cons (ev_var rfl) (ea_cons ev_ty ea_nil)) (c_isi rfl rfl (kit_ty (by decide +kernel)))) fun _ => ev_notV (ev_cb (ea_cons (ev_var rfl) (ea_cons ev_ty ea_nil)) (c_isi rfl rfl (kit_ty (by decide +kernel))))
end
end K08
namespace K08
open PySem L2 Pd
section
variable {P : Program} {w : World} {K : PySem.W.Frag} {mg : Str → Option Value} {base : Heap}

theorem ok__law_are_numbers (T : Txt K mg) : FnOk P w K mg base CX0 2 T.a__law_are_numbers T.fd__law_are_numbers ["_law_xs"] (spF K 1 rl__law_are_numbers) := by
  have G__law_is_number := ok__law_is_number (P := P) (w := w) (base := base) T
  refine T.F__law_are_numbers.ok sc__law_are_numbers spF_len (fun cdv A outer s H vs Q E hr h => ?_)
  refine ⟨_, (pss_cons (ps_if (pt_not (pt_val (pe_callB (kcall_isi K) (by rfl) T.b_isinstance (by decide +kernel) (pa_cons (pv 0) (pa_cons (pe_bltn (v := .ty "tuple") (by rfl) T.b_tuple (by decide +kernel) rfl) pa_nil))))) (pss_one (ps_ret pe_bl)) pss_nil)
      (pss_cons (ps_for PassesOwn.never rfl (kpi_tup K (pv 0)) (pg_name (i := 1) sc__law_are_numbers.nd rfl (Or.inl rfl)) (pss_one (ps_if (pt_not (pt_val (pe_call G__law_is_number hr (by rfl) T.m__law_is_number T.k__law_is_number T.bd__law_is_number .nil pass0 (pa_cons (pv 1) pa_nil)))) (pss_one (ps_ret pe_bl)) pss_nil)))
      (pss_one (ps_ret pe_bl)))), ?_⟩
  -- slots: 0 _law_xs, 1 _law_x
  refine body_of [.no] h (fun ds P0 hl hr => ?_)
  obtain ⟨ns, rfl, rfl⟩ := hr
  walk_at "nrm"
  refine q_then (q_if (b := false) (EvB.is (b := !true) (eb_not (eb_test (ev_cb (ea_cons (ev_var rfl) (ea_cons ev_ty ea_nil)) (c_isiT rfl (kit_ty (by decide +kernel)))))) rfl) (fun z => nomatch z) fun _ => q_nil rfl) ?_
  refine q_seq (R1 := fun o => ∃ b1, o = .nx [.val (.tup (ns.map D.int)), b1]) (q_for (fun _ e => ∃ b1, e = [.val (.tup (ns.map D.int)), b1]) (i_tup (ev_var rfl)) ⟨.no, rfl⟩ ?_ ?_) ?_ ?_
  · rintro i d e hd ⟨b1, rfl⟩
    obtain ⟨x, hi, rfl⟩ := at_map hd
    refine ⟨_, _, t_name, ?_⟩
    walk_at "nrm"
    exact q_if (b := false) (EvB.is (b := !true) (eb_not (eb_test (ev_call (ea_cons (ev_var rfl) ea_nil) dfl_nil ⟨x, rfl, rfl⟩ rfl))) rfl) (fun z => nomatch z) fun _ => q_nil ⟨_, rfl⟩
  · rintro e ⟨b1, rfl⟩
    exact ⟨b1, rfl⟩
  · rintro e ⟨b1, e0⟩
    cases e0
    exact q_ret ev_bl (.inl ⟨_, rfl, rfl⟩)
  · rintro o ⟨b1, rfl⟩ hn
    exact (hn _ rfl).elim
end
end K08
namespace K08
open PySem L2 Pd
section
variable {P : Program} {w : World} {K : PySem.W.Frag} {mg : Str → Option Value} {base : Heap}

theorem ok__law_once (T : Txt K mg) : FnOk P w K mg base CX0 1 T.a__law_once T.fd__law_once ["_law_rows"] (spF K 1 rl__law_once) := by
  refine T.F__law_once.ok sc__law_once spF_len (fun cdv A outer s H vs Q E hr h => ?_)
  refine ⟨_, (pss_cons (ps_set (i := 1) sc__law_once.nd rfl (Or.inl rfl) (pe_lst pa_nil))
      (pss_cons (ps_for PassesOwn.never rfl (kpi_list K (pe_callB (kcr_sortIT K (d := 3) (B := 1000000) (by decide)) (by rfl) T.b_sorted (by decide +kernel) (pa_cons (pv 0) pa_nil))) (pg_name (i := 2) sc__law_once.nd rfl (Or.inl rfl)) (pss_one (ps_if (PW.pt (pw_or (pt_cmpR op_eq (pe_callB (kcall_len_seq K) (by rfl) T.b_len PySem.boot_len (pa_cons (pv 1) pa_nil)) pe_int (nomark _)) (pw_or1 (pt_cmpR (kop_neD K hr.units) (pe_ix (kix_list K) (pv 1) (pe_un un_neg pe_int) (fun _ _ => rfl)) (pv 2) (nomark _))))) (pss_one (ps_expr (pe_bm PySem.F.plainAttrs_list PySem.F.slot_list_append PySem.F.type_list_append mt_append (pv 1) (pa_cons (pv 2) pa_nil)))) pss_nil)))
      (pss_one (ps_ret (pe_callTy (kcall_tuple_of K) (by rfl) T.b_tuple (by decide +kernel) (pa_cons (pv 1) pa_nil)))))), ?_⟩
  -- slots: 0 _law_rows, 1 _law_found, 2 _law_row
  refine body_of [.no, .no] h (fun ds P0 hl hr => ?_)
  have com : ∃ (α : Type) (_ : DecidableEq α) (f : α → D) (g : α → PyData) (lt : α → α → Bool) (xs : List α), Lin lt ∧ Enc K f g ∧ xs.length ≤ 4000 ∧ OpC K (rOr (rSortedI K) (rSortU K 3 1000000)) [.lst (xs.map f)] (.n (.lst ((dsort lt xs).map f))) ∧ ds = [.lst (xs.map f)] ∧ P0 = (· = .v (.tup ((usort lt xs).map f))) := by
    rcases hr with ⟨es, h1, h2, h3, h4⟩ | ⟨ns, h1, h2, h3⟩
    · exact ⟨Edge, inferInstance, encE, pyE, ltE, es, linE, encEE, by omega, (c_sortE (d0 := .lst (es.map encE)) (es := es) rfl h3 h2).r, h1, h4⟩
    · exact ⟨Int, inferInstance, D.int, PyData.int, ltI, ns, linI, encI, h2, (c_sortI' (d0 := .lst (ns.map D.int)) (ns := ns) rfl).l, h1, h3⟩
  obtain ⟨α, dec, f, g, lt, xs, L, enc, hz, hop, rfl, rfl⟩ := com
  dsimp only [List.map, List.cons_append, List.nil_append]
  refine q_asg (ev_lst ea_nil (by simp)) ?_
  dsimp only [List.set, B.of]
  have hsz : (dsort lt xs).length = xs.length := (dsort_perm xs).length_eq
  let W : Nat → Pd.Env → Prop := fun i e => ∃ (ys : List α) (b2 : B), e = [.val (.lst (xs.map f)), .own (.lst (ys.map f)), b2] ∧ (∀ y, y ∈ ys ↔ y ∈ (dsort lt xs).take i) ∧ ys.Pairwise (fun a b => lt a b = true) ∧ ys.length ≤ i
  refine q_seq (R1 := fun o => ∃ e, o = .nx e ∧ W xs.length e) (q_for W (i_list (ds := (dsort lt xs).map f) (Ev.d (ev_cb (ea_cons (ev_var rfl) ea_nil) hop)) rfl) ⟨[], .no, rfl, by simp, .nil, Nat.le_refl _⟩ ?_ ?_) ?_ ?_
  · rintro i d e hd ⟨ys, b2, rfl, hm, hp, hyl⟩
    obtain ⟨x, hi, rfl⟩ := at_map hd
    have hil : i < xs.length := by rw [← hsz]; exact (List.getElem?_eq_some_iff.mp hi).1
    refine ⟨_, _, t_name, ?_⟩
    dsimp only [List.set]
    have last : ∀ y, ys.getLast? = some y → ∀ z ∈ ys, z = y ∨ lt z y = true := fun y hy z hzz => by
      obtain ⟨ys', e⟩ := List.getLast?_eq_some_iff.mp hy
      rw [e] at hzz hp
      rcases List.mem_append.mp hzz with m | m
      · exact .inr ((List.pairwise_append.mp hp).2.2 z m y (by simp))
      · exact .inl (List.mem_singleton.mp m)
    obtain ⟨st1, st2⟩ := once_step L (dsort_sorted L xs) hi hm hp last
    refine q_if (b := !decide (ys.getLast? = some x)) (eb_peek (i := 1) rfl ?_) (fun hb => ?_) (fun hb => ?_)
    · dsimp only [List.set, OO.d]
      rcases List.eq_nil_or_concat ys with e | ⟨ys', y, e⟩
      · subst e
        exact EvB.is (b := true || false) (eb_or (EvB.is (b := decide (((([] : List α).map f).length : Int) = 0)) (eb_b (ev_op (ev_cb (ea_cons (ev_var rfl) ea_nil) (c_lenL (d0 := .lst (([] : List α).map f)) (ds := ([] : List α).map f) rfl)) ev_int o_eqI)) (by simp)) (fun z => nomatch z)) (by simp)
      · rw [List.concat_eq_append] at e
        subst e
        refine EvB.is (b := false || !decide (y = x)) (eb_or (EvB.is (b := decide ((((ys' ++ [y]).map f).length : Int) = 0)) (eb_b (ev_op (ev_cb (ea_cons (ev_var rfl) ea_nil) (c_lenL (d0 := .lst ((ys' ++ [y]).map f)) (ds := (ys' ++ [y]).map f) rfl)) ev_int o_eqI)) (by simp; omega)) fun _ => eb_b (ev_op (ev_op (ev_var rfl) (ev_un ev_int o_neg) (o_ixL (ds := (ys' ++ [y]).map f) (d := f y) (by rw [← map_snoc]; exact atI_last1) rfl)) (ev_var rfl) (o_neE enc))) (by simp)
    · have ne : ys.getLast? ≠ some x := by simpa using hb
      refine r_app (d := f x) rfl (ev_var rfl) (by rw [List.length_map]; omega) ⟨ys ++ [x], _, by rw [map_snoc]; rfl, fun y => ?_, List.pairwise_append.mpr ⟨hp, List.pairwise_singleton _ _, fun z hzz w hw => by rw [List.mem_singleton.mp hw]; exact st2 ne z hzz⟩, by rw [List.length_append, List.length_singleton]; omega⟩
      rw [take_snoc hi, List.mem_append, List.mem_append, hm]
    · have eq : ys.getLast? = some x := by simpa using hb
      refine q_nil ⟨ys, _, rfl, fun y => ?_, hp, by omega⟩
      rw [take_snoc hi, List.mem_append, hm, List.mem_singleton]
      exact ⟨.inl, fun z => z.elim id fun z => by rw [z]; exact (hm x).mp (st1 eq)⟩
  · rintro e w
    rw [List.length_map, hsz] at w
    exact ⟨e, rfl, w⟩
  · rintro e ⟨e', e0, ys, b2, rfl, hm, hp, hyl⟩
    cases e0
    refine q_fix (i := 1) rfl ?_
    dsimp only [List.set, OO.d]
    refine q_ret (r := .v (.tup (ys.map f))) (ev_cb (ea_cons (ev_var rfl) ea_nil) (c_tupL rfl)) (.inl ⟨_, ?_, rfl⟩)
    show Pd.R.v (.tup (ys.map f)) = _
    rw [usort_of (ys := xs) L hp fun a => by rw [hm, ← hsz, List.take_length]; exact (dsort_perm xs).mem_iff]
  · rintro o ⟨e, rfl, _⟩ hn
    exact (hn _ rfl).elim
end
end K08
namespace K08
open PySem L2 Pd
section
variable {P : Program} {w : World} {K : PySem.W.Frag} {mg : Str → Option Value} {base : Heap}

theorem ok__law_kept (T : Txt K mg) : FnOk P w K mg base CX0 3 T.a__law_kept T.fd__law_kept ["_law_net", "_law_parts_here"] (spF K 2 (rl__law_kept T.c_Net)) := by
  have G__law_are_numbers := ok__law_are_numbers (P := P) (w := w) (base := base) T
  have G__law_once := ok__law_once (P := P) (w := w) (base := base) T
  refine T.F__law_kept.ok sc__law_kept spF_len (fun cdv A outer s H vs Q E hr h => ?_)
  refine ⟨_, (pss_cons (ps_if (PW.pt (pw_or (pt_not (pt_val (pe_callB (kcall_isi K) (by rfl) T.b_isinstance (by decide +kernel) (pa_cons (pv 0) (pa_cons (pe_glob (v := .ref T.c_Net) (by rfl) T.m_Net rfl) pa_nil))))) (pw_or1 (pt_not (pt_val (pe_call G__law_are_numbers hr (by rfl) T.m__law_are_numbers T.k__law_are_numbers T.bd__law_are_numbers .nil pass0 (pa_cons (pe_tup (pa_cons (kpe_fld K (pv 0) rfl) (pa_cons (kpe_fld K (pv 0) rfl) (pa_cons (kpe_fld K (pv 0) rfl) pa_nil)))) pa_nil))))))) (pss_one (ps_ret pe_bl)) pss_nil)
      (pss_cons (ps_if (PW.pt (pw_or (pt_not (pt_val (pe_callB (kcall_isi K) (by rfl) T.b_isinstance (by decide +kernel) (pa_cons (kpe_fld K (pv 0) rfl) (pa_cons (pe_bltn (v := .ty "tuple") (by rfl) T.b_tuple (by decide +kernel) rfl) pa_nil))))) (pw_or1 (pt_not (pt_val (pe_call G__law_are_numbers hr (by rfl) T.m__law_are_numbers T.k__law_are_numbers T.bd__law_are_numbers .nil pass0 (pa_cons (kpe_fld K (pv 0) rfl) pa_nil))))))) (pss_one (ps_ret pe_bl)) pss_nil)
      (pss_cons (ps_for PassesOwn.never rfl (kpi_tup K (kpe_fld K (pv 0) rfl)) (pg_name (i := 2) sc__law_kept.nd rfl (Or.inl rfl)) (pss_one (ps_if (pt_not (pt_val (pe_call G__law_are_numbers hr (by rfl) T.m__law_are_numbers T.k__law_are_numbers T.bd__law_are_numbers .nil pass0 (pa_cons (pv 2) pa_nil)))) (pss_one (ps_ret pe_bl)) pss_nil)))
      (pss_cons (ps_if (PW.pt (pw_or (pt_cmpR op_ne (kpe_fld K (pv 0) rfl) (pe_ix (kix_tup K) (pv 1) pe_int (fun _ _ => rfl)) (nomark _)) (pw_or (pt_cmpR op_ne (kpe_fld K (pv 0) rfl) (pe_ix (kix_tup K) (pv 1) pe_int (fun _ _ => rfl)) (nomark _)) (pw_or1 (pt_cmpR op_ne (kpe_fld K (pv 0) rfl) (pe_ix (kix_tup K) (pv 1) pe_int (fun _ _ => rfl)) (nomark _)))))) (pss_one (ps_ret pe_bl)) pss_nil)
      (pss_one (ps_ret (pe_and (pe_cmpR (kop_eqD K hr.units) (kpe_fld K (pv 0) rfl) (pe_call G__law_once (hr.mono (by decide)) (by rfl) T.m__law_once T.k__law_once T.bd__law_once .nil pass0 (pa_cons (pe_ix (kix_tup K) (pv 1) pe_int (fun _ _ => rfl)) pa_nil)) (nomark _)) (pe_one (pe_cmpR (kop_eqD K hr.units) (kpe_fld K (pv 0) rfl) (pe_call G__law_once (hr.mono (by decide)) (by rfl) T.m__law_once T.k__law_once T.bd__law_once .nil pass0 (pa_cons (pe_ix (kix_tup K) (pv 1) pe_int (fun _ _ => rfl)) pa_nil)) (nomark _)))))))))), ?_⟩
  -- slots: 0 _law_net, 1 _law_parts_here, 2 _law_edge
  refine body_of [.no] h (fun ds P0 hl hr => ?_)
  obtain ⟨s0, l, n, es, ends, rfl, ok, hl1, hn1, rfl⟩ := hr
  have clN := T.cl_Net
  have fS := T.n_Net_states
  have fL := T.n_Net_letters
  have fN := T.n_Net_nodes
  have fE := T.n_Net_edges
  have fX := T.n_Net_ends
  walk_at "nrm"
  refine q_then (q_if (b := false) (EvB.is (b := !true || !true) (eb_or (eb_not (eb_test (ev_cb (ea_cons (ev_var rfl) (ea_cons ev_cls ea_nil)) (c_isiI clN T.ic_Net rfl T.ki_Net_Net)))) fun _ => eb_not (eb_test (ev_call (ea_cons (ev_tup (ea_cons (ev_fld (ev_var rfl) clN fS rfl) (ea_cons (ev_fld (ev_var rfl) clN fL rfl) (ea_cons (ev_fld (ev_var rfl) clN fN rfl) ea_nil))) (by simp)) ea_nil) dfl_nil ⟨[s0, l, n], rfl, rfl⟩ rfl))) rfl) (fun z => nomatch z) fun _ => q_nil rfl) ?_
  refine q_then (q_if (b := false) (EvB.is (b := !true || !true) (eb_or (eb_not (eb_test (ev_cb (ea_cons (ev_fld (ev_var rfl) clN fE rfl) (ea_cons ev_ty ea_nil)) (c_isiT rfl (kit_ty (by decide +kernel)))))) fun _ => eb_not (eb_test (ev_call (ea_cons (ev_fld (ev_var rfl) clN fX rfl) ea_nil) dfl_nil ⟨usort ltI ends, rfl, rfl⟩ rfl))) rfl) (fun z => nomatch z) fun _ => q_nil rfl) ?_
  refine q_seq (R1 := fun o => ∃ b2, o = .nx [.val (netD T.c_Net (netOf s0 l n es ends)), .val (partsD s0 l n es ends), b2]) (q_for (items := (usort ltE es).map encE) (fun _ e => ∃ b2, e = [.val (netD T.c_Net (netOf s0 l n es ends)), .val (partsD s0 l n es ends), b2]) (i_tup (ev_fld (ev_var rfl) clN fE rfl)) ⟨.no, rfl⟩ ?_ ?_) ?_ ?_
  · rintro i d e hd ⟨b2, rfl⟩
    obtain ⟨x, hi, rfl⟩ := at_map hd
    refine ⟨_, _, t_name, ?_⟩
    dsimp only [List.set]
    exact q_if (b := false) (EvB.is (b := !true) (eb_not (eb_test (ev_call (ea_cons (ev_var rfl) ea_nil) dfl_nil ⟨[x.1, x.2.1, x.2.2], rfl, rfl⟩ rfl))) rfl) (fun z => nomatch z) fun _ => q_nil ⟨_, rfl⟩
  · rintro e ⟨b2, rfl⟩
    exact ⟨b2, rfl⟩
  · rintro e ⟨b2, e0⟩
    cases e0
    refine q_then (q_if (b := false) (EvB.is (b := (!decide (s0 = s0)) || ((!decide (l = l)) || (!decide (n = n)))) (eb_or (eb_b (ev_op (ev_fld (ev_var rfl) clN fS rfl) (ev_op (ev_var rfl) ev_int (o_ixT (d := .int s0) rfl)) o_neI)) fun _ => eb_or (eb_b (ev_op (ev_fld (ev_var rfl) clN fL rfl) (ev_op (ev_var rfl) ev_int (o_ixT (d := .int l) rfl)) o_neI)) fun _ => eb_b (ev_op (ev_fld (ev_var rfl) clN fN rfl) (ev_op (ev_var rfl) ev_int (o_ixT (d := .int n) rfl)) o_neI)) (by simp)) (fun z => nomatch z) fun _ => q_nil rfl) ?_
    have hB : ∀ e ∈ es, (0 ≤ e.1 ∧ e.1 < 1000000) ∧ (0 ≤ e.2.1 ∧ e.2.1 < 1000000) ∧ (0 ≤ e.2.2 ∧ e.2.2 < 1000000) := fun e he => by
      have := fit_iff.mp (ok.fit e he)
      omega
    have few := ok.few
    have fewE := ok.fewE
    refine q_ret (r := .v (.bl (decide (usort ltE es = usort ltE es) && decide (usort ltI ends = usort ltI ends)))) (ev_andV ?_ fun _ => ?_) (.inl ⟨_, by simp, rfl⟩)
    · exact ev_op (ev_fld (ev_var rfl) clN fE rfl) (ev_call (ea_cons (ev_op (ev_var rfl) ev_int (o_ixT (d := .lst (es.map encE)) rfl)) ea_nil) dfl_nil (.inl ⟨es, rfl, few, hB, rfl⟩) rfl) (o_eqT encEE)
    · exact ev_op (ev_fld (ev_var rfl) clN fX rfl) (ev_call (ea_cons (ev_op (ev_var rfl) ev_int (o_ixT (d := .lst (ends.map D.int)) rfl)) ea_nil) dfl_nil (.inr ⟨ends, rfl, by omega, rfl⟩) rfl) (o_eqT encI)
  · rintro o ⟨b2, rfl⟩ hn
    exact (hn _ rfl).elim
end
end K08
namespace K08
open PySem L2 Pd
section
variable {P : Program} {w : World} {K : PySem.W.Frag} {mg : Str → Option Value} {base : Heap}

theorem ok__law_outside (T : Txt K mg) : FnOk P w K mg base CX0 1 T.a__law_outside T.fd__law_outside ["_law_number", "_law_limit"] (spF K 2 rl__law_outside) := by
  refine T.F__law_outside.ok sc__law_outside spF_len (fun cdv A outer s H vs Q E hr h => ?_)
  refine ⟨_, (pss_cons (ps_if (pt_cmpR op_eq (pe_op op_mod (pe_callTy call_int1 (by rfl) T.b_int (by decide +kernel) (pa_cons (pv 0) pa_nil)) pe_int) pe_int (nomark _)) (pss_one (ps_ret (pe_op op_sub (pe_un un_neg pe_int) (pe_op op_mod (pe_callTy call_int1 (by rfl) T.b_int (by decide +kernel) (pa_cons (pe_op op_fdiv (pv 0) pe_int) pa_nil)) pe_int)))) pss_nil)
      (pss_one (ps_ret (pe_op op_add (pv 1) (pe_op op_mod (pe_callTy call_int1 (by rfl) T.b_int (by decide +kernel) (pa_cons (pe_op op_fdiv (pv 0) pe_int) pa_nil)) pe_int))))), ?_⟩
  -- slots: 0 _law_number, 1 _law_limit
  refine body_of [] h (fun ds P0 hl hr => ?_)
  obtain ⟨a, lim, rfl, rfl⟩ := hr
  walk_at "nrm"
  refine q_seq (R1 := fun o => (a % 2 = 1 ∧ o = .rt (.v (.int (-1 - a / 2 % 3)))) ∨ (¬ a % 2 = 1 ∧ o = .nx [.val (.int a), .val (.int lim)])) (q_if (b := decide (a % 2 = 1)) ?_ (fun hb => ?_) (fun hb => q_nil (.inr ⟨of_decide_eq_false hb, rfl⟩))) ?_ ?_
  · exact eb_b (ev_op (ev_op (ev_cb (ea_cons (ev_var rfl) ea_nil) c_int) ev_int (o_ic (by decide))) ev_int o_eqI)
  · exact q_ret (ev_op (ev_un ev_int o_neg) (ev_op (ev_cb (ea_cons (ev_op (ev_var rfl) ev_int (o_ic ⟨by decide, by decide⟩)) ea_nil) c_int) ev_int (o_ic (by decide))) o_i) (.inl ⟨of_decide_eq_true hb, rfl⟩)
  · rintro e (⟨_, e0⟩ | ⟨hb, e0⟩)
    · cases e0
    · cases e0
      refine q_ret (r := .v (.int (lim + a / 2 % 3))) (ev_op (ev_var rfl) (ev_op (ev_cb (ea_cons (ev_op (ev_var rfl) ev_int (o_ic ⟨by decide, by decide⟩)) ea_nil) c_int) ev_int (o_ic (by decide))) o_i) (.inl ⟨_, ?_, rfl⟩)
      show Pd.R.v (.int (lim + a / 2 % 3)) = .v (.int (outF a lim))
      unfold outF
      rw [if_neg hb]
  · rintro o (⟨hb, rfl⟩ | ⟨_, rfl⟩) hn
    · refine .inl ⟨_, ?_, rfl⟩
      show Pd.R.v (.int (-1 - a / 2 % 3)) = .v (.int (outF a lim))
      unfold outF
      rw [if_pos hb]
    · exact (hn _ rfl).elim
end
end K08
namespace K08
open PySem L2 Pd
section
variable {P : Program} {w : World} {K : PySem.W.Frag} {mg : Str → Option Value} {base : Heap}

theorem ok__law_placed (T : Txt K mg) : FnOk P w K mg base CX0 1 T.a__law_placed T.fd__law_placed ["_law_rows", "_law_row", "_law_number"] (spF K 3 rl__law_placed) := by
  refine T.F__law_placed.ok sc__law_placed spF_len (fun cdv A outer s H vs Q E hr h => ?_)
  refine ⟨_, (pss_cons (ps_set (i := 3) sc__law_placed.nd rfl (Or.inl rfl) (pe_op op_mod (pe_callTy call_int1 (by rfl) T.b_int (by decide +kernel) (pa_cons (pv 2) pa_nil)) (pe_op op_add (pe_callB (kcall_len_seq K) (by rfl) T.b_len PySem.boot_len (pa_cons (pv 0) pa_nil)) pe_int)))
      (pss_one (ps_ret (pe_op op_cat (pe_op op_cat (pe_slice (ksl_list K) (pv 0) po_none (po_some (pv 3))) (pe_lst (pa_cons (pv 1) pa_nil))) (pe_slice (ksl_list K) (pv 0) (po_some (pv 3)) po_none))))), ?_⟩
  -- slots: 0 _law_rows, 1 _law_row, 2 _law_number, 3 _law_cut
  refine body_of [.no] h (fun ds P0 hl hr => ?_)
  obtain ⟨rs, r, k, rfl, hrs, rfl⟩ := hr
  walk_at "nrm"
  have hm := emod_bd (a := k) (b := (rs.length : Int) + 1) (by omega)
  refine q_asg (r := .v (.int (k % ((rs.length : Int) + 1)))) (ev_op (ev_cb (ea_cons (ev_var rfl) ea_nil) c_int) (ev_op (ev_cb (ea_cons (ev_var rfl) ea_nil) (c_lenL (ds := rs) rfl)) ev_int o_i) (o_ic (show (0 : Int) < rs.length + 1 by omega))) ?_
  walk_at "nrm"
  have c1 : cutD rs none (some (k % ((rs.length : Int) + 1))) = rs.take (cutN rs k) := by
    unfold cutN
    exact cut_hi hm.1 (by omega)
  have c2 : cutD rs (some (k % ((rs.length : Int) + 1))) none = rs.drop (cutN rs k) := by
    unfold cutN
    exact cut_lo hm.1 (by omega)
  refine q_ret (r := .n (.lst (placeF rs r k))) (ev_op (x := .lst (rs.take (cutN rs k) ++ [r])) (y := .lst (rs.drop (cutN rs k))) ?_ ?_ (o_catL ?_)) (.inl ⟨_, rfl, rfl⟩)
  · refine Ev.d (ev_op (x := .lst (rs.take (cutN rs k))) (y := .lst [r]) ?_ (Ev.d (ev_lst (ea_cons (ev_var rfl) ea_nil) (by simp))) (o_catL ?_))
    · rw [← c1]
      exact Ev.d (ev_sl (ev_var rfl) eo_none (eo_some (ev_var rfl)) (s_list (d0 := .lst rs) (ds := rs) rfl))
    · rw [List.length_take, List.length_singleton]; omega
  · rw [← c2]
    exact Ev.d (ev_sl (ev_var rfl) (eo_some (ev_var rfl)) eo_none (s_list (d0 := .lst rs) (ds := rs) rfl))
  · rw [List.length_append, List.length_take, List.length_singleton, List.length_drop]; omega
end
end K08
namespace K08
open PySem L2 Pd
section
variable {P : Program} {w : World} {K : PySem.W.Frag} {mg : Str → Option Value} {base : Heap}

theorem ok__law_spoilt (T : Txt K mg) : FnOk P w K mg base CX0 2 T.a__law_spoilt T.fd__law_spoilt ["_law_parts_here", "_law_kind", "_law_numbers_here", "_law_at"] (spF K 4 rl__law_spoilt) := by
  have G__law_outside := ok__law_outside (P := P) (w := w) (base := base) T
  have G__law_placed := ok__law_placed (P := P) (w := w) (base := base) T
  refine T.F__law_spoilt.ok sc__law_spoilt spF_len (fun cdv A outer s H vs Q E hr h => ?_)
  refine ⟨_, (pss_cons (ps_set (i := 4) sc__law_spoilt.nd rfl (Or.inl rfl) (pe_ix (kix_tup K) (pv 0) pe_int (fun _ _ => rfl)))
      (pss_cons (ps_set (i := 5) sc__law_spoilt.nd rfl (Or.inl rfl) (pe_ix (kix_tup K) (pv 0) pe_int (fun _ _ => rfl)))
      (pss_cons (ps_set (i := 6) sc__law_spoilt.nd rfl (Or.inl rfl) (pe_ix (kix_tup K) (pv 0) pe_int (fun _ _ => rfl)))
      (pss_cons (ps_set (i := 7) sc__law_spoilt.nd rfl (Or.inl rfl) (pe_callTy (kcall_list_of K) (by rfl) T.b_list (by decide +kernel) (pa_cons (pe_ix (kix_tup K) (pv 0) pe_int (fun _ _ => rfl)) pa_nil)))
      (pss_cons (ps_set (i := 8) sc__law_spoilt.nd rfl (Or.inl rfl) (pe_callTy (kcall_list_of K) (by rfl) T.b_list (by decide +kernel) (pa_cons (pe_ix (kix_tup K) (pv 0) pe_int (fun _ _ => rfl)) pa_nil)))
      (pss_cons (ps_set (i := 9) sc__law_spoilt.nd rfl (Or.inl rfl) (pe_call G__law_outside hr (by rfl) T.m__law_outside T.k__law_outside T.bd__law_outside .nil pass0 (pa_cons (pe_ix (kix_list K) (pv 2) (pv 3) (fun _ _ => rfl)) (pa_cons (pv 6) pa_nil))))
      (pss_cons (ps_if (pt_cmpR op_eq (pv 1) pe_int (nomark _)) (pss_one (ps_ret (pe_tup (pa_cons (pe_un un_neg (pe_op op_mod (pe_callTy call_int1 (by rfl) T.b_int (by decide +kernel) (pa_cons (pe_ix (kix_list K) (pv 2) (pv 3) (fun _ _ => rfl)) pa_nil)) pe_int)) (pa_cons (pv 5) (pa_cons (pv 6) (pa_cons (pv 7) (pa_cons (pv 8) pa_nil)))))))) pss_nil)
      (pss_cons (ps_if (pt_cmpR op_eq (pv 1) pe_int (nomark _)) (pss_one (ps_ret (pe_tup (pa_cons (pv 4) (pa_cons (pe_un un_neg (pe_op op_mod (pe_callTy call_int1 (by rfl) T.b_int (by decide +kernel) (pa_cons (pe_ix (kix_list K) (pv 2) (pv 3) (fun _ _ => rfl)) pa_nil)) pe_int)) (pa_cons (pv 6) (pa_cons (pe_lst pa_nil) (pa_cons (pv 8) pa_nil)))))))) pss_nil)
      (pss_cons (ps_if (pt_cmpR op_eq (pv 1) pe_int (nomark _)) (pss_cons (ps_set (i := 10) sc__law_spoilt.nd rfl (Or.inr rfl) (pe_op op_sub (pe_op op_sub (pv 4) pe_int) (pe_op op_mod (pe_callTy call_int1 (by rfl) T.b_int (by decide +kernel) (pa_cons (pe_ix (kix_list K) (pv 2) (pv 3) (fun _ _ => rfl)) pa_nil)) pe_int)))
      (pss_one (ps_ret (pe_tup (pa_cons (pv 4) (pa_cons (pv 5) (pa_cons (pv 10) (pa_cons (pe_lst pa_nil) (pa_cons (pe_lc (own := [("_law_end", 11)]) rfl sc__law_spoilt.nd (kpi_list K (pv 8)) (blkOk_by (own := [("_law_end", 11)]) (N := sc__law_spoilt_N) (sc := defScope s__law_spoilt) (by decide +kernel)) (fun _ _ _ _ _ => (pg_name (i := 11) sc__law_spoilt.nd rfl (Or.inl rfl))) (fun _ _ _ _ _ => (pts_one (pt_cmpR op_lt (pv 11) (pv 10) (nomark _)))) (fun _ _ _ _ _ => (pv 11))) pa_nil))))))))) pss_nil)
      (pss_cons (ps_if (pt_cmpR op_eq (pv 1) pe_int (nomark _)) (pss_one (ps_set (i := 7) sc__law_spoilt.nd rfl (Or.inl rfl) (pe_call G__law_placed hr (by rfl) T.m__law_placed T.k__law_placed T.bd__law_placed .nil pass0 (pa_cons (pv 7) (pa_cons (pe_tup (pa_cons (pv 9) (pa_cons pe_int (pa_cons (pe_op op_sub (pv 6) pe_int) pa_nil)))) (pa_cons (pe_ix (kix_list K) (pv 2) (pe_op op_add (pv 3) pe_int) (fun _ _ => rfl)) pa_nil)))))) pss_nil)
      (pss_cons (ps_if (pt_cmpR op_eq (pv 1) pe_int (nomark _)) (pss_one (ps_set (i := 7) sc__law_spoilt.nd rfl (Or.inl rfl) (pe_call G__law_placed hr (by rfl) T.m__law_placed T.k__law_placed T.bd__law_placed .nil pass0 (pa_cons (pv 7) (pa_cons (pe_tup (pa_cons pe_int (pa_cons (pe_call G__law_outside hr (by rfl) T.m__law_outside T.k__law_outside T.bd__law_outside .nil pass0 (pa_cons (pe_ix (kix_list K) (pv 2) (pv 3) (fun _ _ => rfl)) (pa_cons (pv 5) pa_nil))) (pa_cons (pe_op op_sub (pv 6) pe_int) pa_nil)))) (pa_cons (pe_ix (kix_list K) (pv 2) (pe_op op_add (pv 3) pe_int) (fun _ _ => rfl)) pa_nil)))))) pss_nil)
      (pss_cons (ps_if (pt_cmpR op_eq (pv 1) pe_int (nomark _)) (pss_one (ps_set (i := 7) sc__law_spoilt.nd rfl (Or.inl rfl) (pe_call G__law_placed hr (by rfl) T.m__law_placed T.k__law_placed T.bd__law_placed .nil pass0 (pa_cons (pv 7) (pa_cons (pe_tup (pa_cons (pe_op op_sub (pv 6) pe_int) (pa_cons (pe_op op_sub (pv 5) pe_int) (pa_cons (pv 9) pa_nil)))) (pa_cons (pe_ix (kix_list K) (pv 2) (pe_op op_add (pv 3) pe_int) (fun _ _ => rfl)) pa_nil)))))) pss_nil)
      (pss_cons (ps_if (pt_cmpR op_eq (pv 1) pe_int (nomark _)) (pss_one (ps_set (i := 8) sc__law_spoilt.nd rfl (Or.inl rfl) (pe_call G__law_placed hr (by rfl) T.m__law_placed T.k__law_placed T.bd__law_placed .nil pass0 (pa_cons (pv 8) (pa_cons (pv 9) (pa_cons (pe_ix (kix_list K) (pv 2) (pe_op op_add (pv 3) pe_int) (fun _ _ => rfl)) pa_nil)))))) pss_nil)
      (pss_cons (ps_if (pt_cmpR op_eq (pv 1) pe_int (nomark _)) (pss_one (ps_ret (pe_tup (pa_cons (pe_op op_add (pe_op op_add (pv 6) pe_int) (pe_op op_mod (pe_callTy call_int1 (by rfl) T.b_int (by decide +kernel) (pa_cons (pe_ix (kix_list K) (pv 2) (pv 3) (fun _ _ => rfl)) pa_nil)) pe_int)) (pa_cons (pv 5) (pa_cons (pv 6) (pa_cons (pv 7) (pa_cons (pv 8) pa_nil)))))))) pss_nil)
      (pss_one (ps_ret (pe_tup (pa_cons (pv 4) (pa_cons (pv 5) (pa_cons (pv 6) (pa_cons (pv 7) (pa_cons (pv 8) pa_nil)))))))))))))))))))))), ?_⟩
  -- slots: 0 _law_parts_here, 1 _law_kind, 2 _law_numbers_here, 3 _law_at, 4 _law_states, 5 _law_letters, 6 _law_nodes, 7 _law_edges, 8 _law_ends, 9 _law_far, 10 _law_fewer*, 11 _law_end
  refine body_of [.no, .no, .no, .no, .no, .no, .no, .no] h (fun ds P0 hl hr => ?_)
  obtain ⟨s, l, n, es, ends, kind, ns, rfl, ok, hes, hends, k0, k9, hns, rfl⟩ := hr
  have c1 := ok.s1
  have c2 := ok.l1
  have c3 := ok.n1
  walk_at "nrm"
  have evp : ∀ {env : Pd.Env} (j : Int) (x : D), env[0]? = some (.val (partsD s l n es ends)) → atI [D.int s, .int l, .int n, .lst (es.map encE), .lst (ends.map D.int)] j = some x → EvD K (tOp (rIxT K) (tVar 0) (tC (.int j))) env x := fun j x he hx => ev_op (ev_var he) ev_int (o_ixT hx)
  refine q_asg (evp 0 (.int s) rfl rfl) ?_
  dsimp only [List.set, B.of]
  refine q_asg (evp 1 (.int l) rfl rfl) ?_
  dsimp only [List.set, B.of]
  refine q_asg (evp 2 (.int n) rfl rfl) ?_
  dsimp only [List.set, B.of]
  refine q_asg (r := .v (.lst (es.map encE))) (Ev.d (ev_cb (ea_cons (evp 3 (.lst (es.map encE)) rfl rfl) ea_nil) (c_listL (ds := es.map encE) rfl))) ?_
  dsimp only [List.set, B.of]
  refine q_asg (r := .v (.lst (ends.map D.int))) (Ev.d (ev_cb (ea_cons (evp 4 (.lst (ends.map D.int)) rfl rfl) ea_nil) (c_listL (ds := ends.map D.int) rfl))) ?_
  dsimp only [List.set, B.of]
  have evn : ∀ {env : Pd.Env}, env[2]? = some (.val (.lst (ns.map D.int))) → env[3]? = some (.val (.int 16)) → EvD K (tOp (rIxL K) (tVar 2) (tVar 3)) env (.int (getI ns 16)) := fun h1 h2 => ev_op (ev_var h1) (ev_var h2) (o_ixL (ds := ns.map D.int) (atI_map (by decide) (by omega)) rfl)
  have evk : ∀ {env : Pd.Env}, env[2]? = some (.val (.lst (ns.map D.int))) → env[3]? = some (.val (.int 16)) → EvD K (tOp (rIxL K) (tVar 2) (tOp (rI0 fun i j => V.int (i + j)) (tVar 3) (tC (.int 1)))) env (.int (getI ns 17)) := fun h1 h2 => ev_op (ev_var h1) (y := .int (16 + 1)) (ev_op (ev_var h2) ev_int o_i) (o_ixL (ds := ns.map D.int) (atI_map (by decide) (by omega)) rfl)
  generalize getI ns 16 = a at evn
  generalize getI ns 17 = k1 at evk
  refine q_asg (ev_call (ea_cons (evn rfl rfl) (ea_cons (ev_var rfl) ea_nil)) dfl_nil ⟨a, n, rfl, rfl⟩ rfl) ?_
  dsimp only [List.set, B.of]
  have far := outF_out a n (by omega)
  have farL := outF_out a l (by omega)
  generalize outF a n = fr at far
  have am := emod_bd (a := a) (b := 3) (by decide)
  let en : List Edge → List Int → B → Pd.Env := fun es' ends' b10 => [.val (partsD s l n es ends), .val (.int kind), .val (.lst (ns.map D.int)), .val (.int 16), .val (.int s), .val (.int l), .val (.int n), .val (.lst (es'.map encE)), .val (.lst (ends'.map D.int)), .val (.int fr), b10, .no]
  -- 2
  refine q_ifR (b := decide (kind = 2)) (eb_b (ev_op (ev_var rfl) ev_int o_eqI)) (fun hb => ?_) (fun hb => ?_)
  · have hb' := of_decide_eq_true hb
    refine q_ret (r := .v (partsD (-(a % 3)) l n es ends)) (ev_tup (ea_cons (ev_un (ev_op (ev_cb (ea_cons (evn rfl rfl) ea_nil) c_int) ev_int (o_ic (by decide))) o_neg) (ea_cons (ev_var rfl) (ea_cons (ev_var rfl) (ea_cons (ev_var rfl) (ea_cons (ev_var rfl) ea_nil))))) (by simp)) ⟨_, rfl, .inl ⟨_, ⟨_, _, _, _, _, rfl, by omega, by omega, .inr ⟨by omega, ?_⟩⟩, rfl⟩⟩
    unfold badN
    simp only [Bool.or_eq_true, decide_eq_true_eq]
    omega
  -- 3
  refine q_ifR (b := decide (kind = 3)) (eb_b (ev_op (ev_var rfl) ev_int o_eqI)) (fun hb => ?_) (fun hb => ?_)
  · have hb' := of_decide_eq_true hb
    refine q_ret (r := .v (partsD s (-(a % 3)) n [] ends)) (ev_tup (ea_cons (ev_var rfl) (ea_cons (ev_un (ev_op (ev_cb (ea_cons (evn rfl rfl) ea_nil) c_int) ev_int (o_ic (by decide))) o_neg) (ea_cons (ev_var rfl) (ea_cons (Ev.d (ev_lst ea_nil (by simp))) (ea_cons (ev_var rfl) ea_nil))))) (by simp)) ⟨_, rfl, .inl ⟨_, ⟨_, _, _, [], _, rfl, by simp, by omega, .inr ⟨by omega, ?_⟩⟩, rfl⟩⟩
    unfold badN
    simp only [Bool.or_eq_true, decide_eq_true_eq]
    omega
  -- 4
  refine q_ifR (b := decide (kind = 4)) (eb_b (ev_op (ev_var rfl) ev_int o_eqI)) (fun hb => ?_) (fun hb => ?_)
  · have hb' := of_decide_eq_true hb
    refine q_asg (r := .v (.int (s - 1 - a % 3))) (ev_op (ev_op (ev_var rfl) ev_int o_i) (ev_op (ev_cb (ea_cons (evn rfl rfl) ea_nil) c_int) ev_int (o_ic (by decide))) o_i) ?_
    dsimp only [List.set, B.of]
    refine q_ret (r := .v (partsD s l (s - 1 - a % 3) [] (ends.filter fun x => decide (x < s - 1 - a % 3)))) (ev_tup (ea_cons (ev_var rfl) (ea_cons (ev_var rfl) (ea_cons (ev_var rfl) (ea_cons (Ev.d (ev_lst ea_nil (by simp))) (ea_cons (Ev.d (ev_lc (enc := D.int) (xs := ends) (fun x => decide (x < s - 1 - a % 3)) D.int (i_list (d0 := .lst (ends.map D.int)) (ds := ends.map D.int) (ev_var rfl) rfl) (by omega) fun e he => ⟨_, _, t_name, by simp, ?_, fun _ => ev_var rfl⟩)) ea_nil))))) (by simp)) ⟨_, rfl, .inl ⟨_, ⟨_, _, _, [], _, rfl, by simp, ?_, .inr ⟨by omega, ?_⟩⟩, rfl⟩⟩
    · exact eb_b (ev_op (ev_var rfl) (ev_var rfl) o_b)
    · exact Nat.lt_of_le_of_lt (List.length_filter_le _ _) (by omega)
    · unfold badN
      simp only [Bool.or_eq_true, decide_eq_true_eq]
      omega
  rename_i h2 h3
  have h2 := of_decide_eq_false h2
  have h3 := of_decide_eq_false h3
  have h4 := of_decide_eq_false hb
  -- 5, 6, 7: an edge is put in
  let I : Nat → Int → List Edge → List Edge → Prop := fun m k es0 es1 => es1.length ≤ es0.length + 1 ∧ ((kind = k ∧ ∃ e ∈ es1, fitsB e l n = false) ∨ (kind ≠ k ∧ es1 = es0))
  have put : ∀ (k : Int) (es0 : List Edge) (e : Edge), es0.length ≤ 900 → kind = k → fitsB e l n = false → I 0 k es0 (placeF es0 e k1) := fun k es0 e _ hk hf => ⟨by rw [place_len]; exact Nat.le_refl _, .inl ⟨hk, e, place_mem _ _ _, hf⟩⟩
  refine q_seq (R1 := fun o => ∃ es1, o = .nx (en es1 ends .no) ∧ I 0 5 es es1) (q_if (b := decide (kind = 5)) (eb_b (ev_op (ev_var rfl) ev_int o_eqI)) (fun hb => ?_) (fun hb => q_nil ⟨es, rfl, by omega, .inr ⟨of_decide_eq_false hb, rfl⟩⟩)) ?_ ?_
  · refine r_asg (r := .v (.lst ((placeF es (fr, 0, n - 1) k1).map encE))) ?_ ⟨_, rfl, put 5 es _ (by omega) (of_decide_eq_true hb) (fits_out (.inl far))⟩
    rw [← place_map]
    exact Ev.d (r := .n (.lst (placeF (es.map encE) (encE (fr, 0, n - 1)) k1))) (ev_call (ea_cons (ev_var rfl) (ea_cons (ev_tup (ea_cons (ev_var rfl) (ea_cons ev_int (ea_cons (ev_op (ev_var rfl) ev_int o_i) ea_nil))) (by simp)) (ea_cons (evk rfl rfl) ea_nil))) dfl_nil ⟨es.map encE, encE (fr, 0, n - 1), k1, rfl, by rw [List.length_map]; omega, rfl⟩ rfl)
  rotate_left
  · rintro o ⟨es1, rfl, _⟩ hn
    exact (hn _ rfl).elim
  rintro e ⟨es1, e0, i5⟩
  cases e0
  dsimp only [en]
  have z1 := i5.1
  refine q_seq (R1 := fun o => ∃ es2, o = .nx (en es2 ends .no) ∧ I 0 6 es1 es2) (q_if (b := decide (kind = 6)) (eb_b (ev_op (ev_var rfl) ev_int o_eqI)) (fun hb => ?_) (fun hb => q_nil ⟨es1, rfl, by omega, .inr ⟨of_decide_eq_false hb, rfl⟩⟩)) ?_ ?_
  · refine r_asg (r := .v (.lst ((placeF es1 (0, outF a l, n - 1) k1).map encE))) ?_ ⟨_, rfl, put 6 es1 _ (by omega) (of_decide_eq_true hb) (fits_out (.inr (.inl farL)))⟩
    rw [← place_map]
    exact Ev.d (r := .n (.lst (placeF (es1.map encE) (encE (0, outF a l, n - 1)) k1))) (ev_call (ea_cons (ev_var rfl) (ea_cons (ev_tup (ea_cons ev_int (ea_cons (ev_call (ea_cons (evn rfl rfl) (ea_cons (ev_var rfl) ea_nil)) dfl_nil ⟨a, l, rfl, rfl⟩ rfl) (ea_cons (ev_op (ev_var rfl) ev_int o_i) ea_nil))) (by simp)) (ea_cons (evk rfl rfl) ea_nil))) dfl_nil ⟨es1.map encE, encE (0, outF a l, n - 1), k1, rfl, by rw [List.length_map]; omega, rfl⟩ rfl)
  rotate_left
  · rintro o ⟨es1, rfl, _⟩ hn
    exact (hn _ rfl).elim
  rintro e ⟨es2, e0, i6⟩
  cases e0
  dsimp only [en]
  have z2 := i6.1
  refine q_seq (R1 := fun o => ∃ es3, o = .nx (en es3 ends .no) ∧ I 0 7 es2 es3) (q_if (b := decide (kind = 7)) (eb_b (ev_op (ev_var rfl) ev_int o_eqI)) (fun hb => ?_) (fun hb => q_nil ⟨es2, rfl, by omega, .inr ⟨of_decide_eq_false hb, rfl⟩⟩)) ?_ ?_
  · refine r_asg (r := .v (.lst ((placeF es2 (n - 1, l - 1, fr) k1).map encE))) ?_ ⟨_, rfl, put 7 es2 _ (by omega) (of_decide_eq_true hb) (fits_out (.inr (.inr far)))⟩
    rw [← place_map]
    exact Ev.d (r := .n (.lst (placeF (es2.map encE) (encE (n - 1, l - 1, fr)) k1))) (ev_call (ea_cons (ev_var rfl) (ea_cons (ev_tup (ea_cons (ev_op (ev_var rfl) ev_int o_i) (ea_cons (ev_op (ev_var rfl) ev_int o_i) (ea_cons (ev_var rfl) ea_nil))) (by simp)) (ea_cons (evk rfl rfl) ea_nil))) dfl_nil ⟨es2.map encE, encE (n - 1, l - 1, fr), k1, rfl, by rw [List.length_map]; omega, rfl⟩ rfl)
  rotate_left
  · rintro o ⟨es1, rfl, _⟩ hn
    exact (hn _ rfl).elim
  rintro e ⟨es3, e0, i7⟩
  cases e0
  dsimp only [en]
  have z3 := i7.1
  refine q_seq (R1 := fun o => ∃ ends1, o = .nx (en es3 ends1 .no) ∧ ends1.length ≤ ends.length + 1 ∧ ((kind = 8 ∧ ∃ x ∈ ends1, ¬ (0 ≤ x ∧ x < n)) ∨ (kind ≠ 8 ∧ ends1 = ends))) (q_if (b := decide (kind = 8)) (eb_b (ev_op (ev_var rfl) ev_int o_eqI)) (fun hb => ?_) (fun hb => q_nil ⟨ends, rfl, by omega, .inr ⟨of_decide_eq_false hb, rfl⟩⟩)) ?_ ?_
  · refine r_asg (r := .v (.lst ((placeF ends fr k1).map D.int))) ?_ ⟨_, rfl, by rw [place_len]; exact Nat.le_refl _, .inl ⟨of_decide_eq_true hb, fr, place_mem _ _ _, far⟩⟩
    rw [← place_map]
    exact Ev.d (r := .n (.lst (placeF (ends.map D.int) (.int fr) k1))) (ev_call (ea_cons (ev_var rfl) (ea_cons (ev_var rfl) (ea_cons (evk rfl rfl) ea_nil))) dfl_nil ⟨ends.map D.int, .int fr, k1, rfl, by rw [List.length_map]; omega, rfl⟩ rfl)
  rotate_left
  · rintro o ⟨es1, rfl, _⟩ hn
    exact (hn _ rfl).elim
  rintro e ⟨ends1, e0, z4, i8⟩
  cases e0
  dsimp only [en]
  refine q_ifR (b := decide (kind = 9)) (eb_b (ev_op (ev_var rfl) ev_int o_eqI)) (fun hb => ?_) (fun hb => ?_)
  · have hb' := of_decide_eq_true hb
    refine q_ret (r := .v (partsD (n + 1 + a % 3) l n es3 ends1)) (ev_tup (ea_cons (ev_op (ev_op (ev_var rfl) ev_int o_i) (ev_op (ev_cb (ea_cons (evn rfl rfl) ea_nil) c_int) ev_int (o_ic (by decide))) o_i) (ea_cons (ev_var rfl) (ea_cons (ev_var rfl) (ea_cons (ev_var rfl) (ea_cons (ev_var rfl) ea_nil))))) (by simp)) ⟨_, rfl, .inl ⟨_, ⟨_, _, _, _, _, rfl, by omega, by omega, .inr ⟨by omega, ?_⟩⟩, rfl⟩⟩
    unfold badN
    simp only [Bool.or_eq_true, decide_eq_true_eq]
    omega
  have h9 := of_decide_eq_false hb
  refine q_ret (r := .v (partsD s l n es3 ends1)) (ev_tup (ea_cons (ev_var rfl) (ea_cons (ev_var rfl) (ea_cons (ev_var rfl) (ea_cons (ev_var rfl) (ea_cons (ev_var rfl) ea_nil))))) (by simp)) (.inl ⟨_, ⟨_, _, _, _, _, rfl, by omega, by omega, ?_⟩, rfl⟩)
  have bad : ∀ e ∈ es3, fitsB e l n = false → 2 ≤ kind → (2 ≤ kind ∧ (badN s l n || badE l n es3 ends1) = true) := fun e he hf hk => ⟨hk, by rw [badE_e he hf, Bool.or_true]⟩
  rcases i7.2 with ⟨hk, e, he, hf⟩ | ⟨n7, e7⟩
  · exact .inr (bad e he hf (by omega))
  rcases i6.2 with ⟨hk, e, he, hf⟩ | ⟨n6, e6⟩
  · exact .inr (bad e (e7 ▸ he) hf (by omega))
  rcases i5.2 with ⟨hk, e, he, hf⟩ | ⟨n5, e5⟩
  · exact .inr (bad e (e7 ▸ e6 ▸ he) hf (by omega))
  rcases i8 with ⟨hk, x, hx, hf⟩ | ⟨n8, e8⟩
  · exact .inr ⟨by omega, by rw [badE_x hx hf, Bool.or_true]⟩
  · exact .inl ⟨by omega, rfl, rfl, rfl, by rw [e7, e6, e5], e8⟩
end
end K08
namespace K08
open PySem L2 Pd
section
variable {P : Program} {w : World} {K : PySem.W.Frag} {mg : Str → Option Value} {base : Heap}

theorem ok_law (T : Txt K mg) : FnOk P w K mg base CX0 4 T.a_law T.fd_law ["_law_script"] (spF K 1 rl_law) := by
  have G_Net_init := ok_Net_init (P := P) (w := w) (base := base) T
  have G__law_kept := ok__law_kept (P := P) (w := w) (base := base) T
  have G__law_numbers := ok__law_numbers (P := P) (w := w) (base := base) T
  have G__law_parts := ok__law_parts (P := P) (w := w) (base := base) T
  have G__law_spoilt := ok__law_spoilt (P := P) (w := w) (base := base) T
  refine T.F_law.ok sc_law spF_len (fun cdv A outer s H vs Q E hr h => ?_)
  refine ⟨_, (pss_cons (ps_set (i := 1) sc_law.nd rfl (Or.inl rfl) (pe_call G__law_numbers (hr.mono (by decide)) (by rfl) T.m__law_numbers T.k__law_numbers T.bd__law_numbers .nil pass0 (pa_cons (pv 0) (pa_cons pe_int pa_nil))))
      (pss_cons (ps_set (i := 2) sc_law.nd rfl (Or.inl rfl) (pe_lst (pa_cons (pe_op op_add pe_int (pe_op op_mod (pe_callTy call_int1 (by rfl) T.b_int (by decide +kernel) (pa_cons (pe_ix (kix_list K) (pv 1) pe_int (fun _ _ => rfl)) pa_nil)) pe_int)) (pa_cons (pe_op op_add pe_int (pe_op op_mod (pe_callTy call_int1 (by rfl) T.b_int (by decide +kernel) (pa_cons (pe_op op_fdiv (pe_ix (kix_list K) (pv 1) pe_int (fun _ _ => rfl)) pe_int) pa_nil)) pe_int)) (pa_cons (pe_op op_mod (pe_callTy call_int1 (by rfl) T.b_int (by decide +kernel) (pa_cons (pe_op op_fdiv (pe_ix (kix_list K) (pv 1) pe_int (fun _ _ => rfl)) pe_int) pa_nil)) pe_int) (pa_cons (pe_op op_mod (pe_callTy call_int1 (by rfl) T.b_int (by decide +kernel) (pa_cons (pe_op op_fdiv (pe_ix (kix_list K) (pv 1) pe_int (fun _ _ => rfl)) pe_int) pa_nil)) pe_int) pa_nil))))))
      (pss_cons (ps_if (pt_cmpR op_eq (pe_op op_mod (pe_callTy call_int1 (by rfl) T.b_int (by decide +kernel) (pa_cons (pe_op op_fdiv (pe_ix (kix_list K) (pv 1) pe_int (fun _ _ => rfl)) pe_int) pa_nil)) pe_int) pe_int (nomark _)) (pss_one (ps_set (i := 2) sc_law.nd rfl (Or.inl rfl) (pe_lst (pa_cons pe_int (pa_cons pe_int (pa_cons pe_int (pa_cons pe_int pa_nil))))))) pss_nil)
      (pss_cons (ps_set (i := 3) sc_law.nd rfl (Or.inl rfl) (pe_call G__law_parts (hr.mono (by decide)) (by rfl) T.m__law_parts T.k__law_parts T.bd__law_parts .nil pass0 (pa_cons (pv 1) (pa_cons pe_int (pa_cons (pv 2) (pa_cons pe_bl pa_nil))))))
      (pss_cons (ps_expr (pe_bm PySem.F.plainAttrs_list PySem.F.slot_list_append PySem.F.type_list_append mt_append (pe_ix (kix_tup K) (pv 3) pe_int (fun _ _ => rfl)) (pa_cons (pe_tup (pa_cons (pe_op op_sub (pe_ix (kix_tup K) (pv 3) pe_int (fun _ _ => rfl)) pe_int) (pa_cons (pe_op op_sub (pe_ix (kix_tup K) (pv 3) pe_int (fun _ _ => rfl)) pe_int) (pa_cons (pe_op op_sub (pe_ix (kix_tup K) (pv 3) pe_int (fun _ _ => rfl)) pe_int) pa_nil)))) pa_nil)))
      (pss_cons (ps_expr (pe_bm PySem.F.plainAttrs_list PySem.F.slot_list_append PySem.F.type_list_append mt_append (pe_ix (kix_tup K) (pv 3) pe_int (fun _ _ => rfl)) (pa_cons (pe_op op_sub (pe_ix (kix_tup K) (pv 3) pe_int (fun _ _ => rfl)) pe_int) pa_nil)))
      (pss_cons (ps_set (i := 4) sc_law.nd rfl (Or.inl rfl) (pe_op op_mod (pe_callTy call_int1 (by rfl) T.b_int (by decide +kernel) (pa_cons (pe_ix (kix_list K) (pv 1) pe_int (fun _ _ => rfl)) pa_nil)) pe_int))
      (pss_cons (ps_set (i := 5) sc_law.nd rfl (Or.inl rfl) (pe_call G__law_spoilt (hr.mono (by decide)) (by rfl) T.m__law_spoilt T.k__law_spoilt T.bd__law_spoilt .nil pass0 (pa_cons (pv 3) (pa_cons (pv 4) (pa_cons (pv 1) (pa_cons pe_int pa_nil))))))
      (pss_cons (ps_set (i := 6) sc_law.nd rfl (Or.inl rfl) (pe_lst (pa_cons (pe_callTy (kcall_list_of K) (by rfl) T.b_list (by decide +kernel) (pa_cons (pe_ix (kix_tup K) (pv 5) pe_int (fun _ _ => rfl)) pa_nil)) (pa_cons (pe_callTy (kcall_list_of K) (by rfl) T.b_list (by decide +kernel) (pa_cons (pe_ix (kix_tup K) (pv 5) pe_int (fun _ _ => rfl)) pa_nil)) pa_nil))))
      (pss_cons (ps_try1 (i := 8) (D1 := T.c_InvalidNet) rfl rfl sc_law.nd rfl rfl ⟨rfl, by decide, Or.inl T.m_InvalidNet⟩ (fun W pn xe tk _ => (pss_one (ps_set (i := 7) sc_law.nd rfl (Or.inl rfl) (pe_makeS T.mk_Net G_Net_init hr (by rfl) T.m_Net T.bd_Net_init (fun σ => passAt tk σ) (pa_cons (pe_ix (kix_tup K) (pv 5) pe_int (fun _ _ => rfl)) (pa_cons (pe_ix (kix_tup K) (pv 5) pe_int (fun _ _ => rfl)) (pa_cons (pe_ix (kix_tup K) (pv 5) pe_int (fun _ _ => rfl)) (pa_cons (pe_ix (kix_list K) (pv 6) pe_int (fun _ _ => rfl)) (pa_cons (pe_ix (kix_list K) (pv 6) pe_int (fun _ _ => rfl)) pa_nil))))))))) (fun a oe pn hz hf => (pss_cons (ps_if (PW.pt (pw_or (pt_cmpR (kop_neD K hr.units) (pe_ix (kix_list K) (pv 6) pe_int (fun _ _ => rfl)) (pe_ix (kix_tup K) (pv 5) pe_int (fun _ _ => rfl)) (nomark _)) (pw_or (pt_cmpR (kop_neD K hr.units) (pe_ix (kix_list K) (pv 6) pe_int (fun _ _ => rfl)) (pe_ix (kix_tup K) (pv 5) pe_int (fun _ _ => rfl)) (nomark _)) (pw_or1 (pt_cmpR op_lt (pv 4) pe_int (nomark _)))))) (pss_one (ps_ret pe_bl)) pss_nil)
      (pss_cons (ps_if (PW.pt (pw_or (pt_not (pt_val (pe_callB (call_isE T.ec_InvalidNet hz hf) (by rfl) T.b_isinstance (by decide +kernel) (pa_cons (pv 8) (pa_cons (pe_glob (v := .ref T.c_PileError) (by rfl) T.m_PileError rfl) pa_nil))))) (pw_or1 (pt_not (pt_val (pe_callB (call_isE T.ec_InvalidNet hz hf) (by rfl) T.b_isinstance (by decide +kernel) (pa_cons (pv 8) (pa_cons (pe_bltn (v := .ty "ValueError") (by rfl) T.b_ValueError (by decide +kernel) rfl) pa_nil)))))))) (pss_one (ps_ret pe_bl)) pss_nil)
      (pss_cons (ps_if (PW.pt (pw_or (pt_val (pe_callB (call_isE T.ec_InvalidNet hz hf) (by rfl) T.b_isinstance (by decide +kernel) (pa_cons (pv 8) (pa_cons (pe_glob (v := .ref T.c_NoStep) (by rfl) T.m_NoStep rfl) pa_nil)))) (pw_or (pt_val (pe_callB (call_isE T.ec_InvalidNet hz hf) (by rfl) T.b_isinstance (by decide +kernel) (pa_cons (pv 8) (pa_cons (pe_glob (v := .ref T.c_InvalidProgram) (by rfl) T.m_InvalidProgram rfl) pa_nil)))) (pw_or1 (pt_val (pe_callB (call_isE T.ec_InvalidNet hz hf) (by rfl) T.b_isinstance (by decide +kernel) (pa_cons (pv 8) (pa_cons (pe_glob (v := .ref T.c_InvalidText) (by rfl) T.m_InvalidText rfl) pa_nil)))))))) (pss_one (ps_ret pe_bl)) pss_nil)
      (pss_one (ps_ret (pe_and (pe_not (pe_callB (call_isE T.ec_InvalidNet hz hf) (by rfl) T.b_isinstance (by decide +kernel) (pa_cons (pv 8) (pa_cons (pe_glob (v := .ref T.c_InvalidMachine) (by rfl) T.m_InvalidMachine rfl) pa_nil)))) (pe_and (pe_not (pe_callB (call_isE T.ec_InvalidNet hz hf) (by rfl) T.b_isinstance (by decide +kernel) (pa_cons (pv 8) (pa_cons (pe_glob (v := .ref T.c_Mismatch) (by rfl) T.m_Mismatch rfl) pa_nil)))) (pe_one (pe_not (pe_callB (call_isE T.ec_InvalidNet hz hf) (by rfl) T.b_isinstance (by decide +kernel) (pa_cons (pv 8) (pa_cons (pe_glob (v := .ref T.c_NotPlain) (by rfl) T.m_NotPlain rfl) pa_nil))))))))))))))
      (pss_one (ps_ret (pe_and (pe_cmpR op_lt (pv 4) pe_int (nomark _)) (pe_one (pe_call G__law_kept hr (by rfl) T.m__law_kept T.k__law_kept T.bd__law_kept .nil pass0 (pa_cons (pv 7) (pa_cons (pv 5) pa_nil))))))))))))))))), ?_⟩
  -- slots: 0 _law_script, 1 _law_numbers_here, 2 _law_sizes, 3 _law_parts_here, 4 _law_kind, 5 _law_due, 6 _law_passed, 7 _law_net, 8 e
  refine body_of [.no, .no, .no, .no, .no, .no, .no, .no] h (fun ds P0 hl hr => ?_)
  obtain ⟨sc, rfl, hsc, rfl⟩ := hr
  have clN := T.cl_Net
  walk_at "nrm"
  refine q_asgP (ev_callP (ea_cons (ev_var rfl) (ea_cons ev_int ea_nil)) dfl_nil ⟨sc, 20, rfl, hsc, by decide, by decide, rfl⟩ rfl) ?_
  rintro r ⟨ns, rfl, hnl, hns⟩
  walk_at "nrm"
  refine q_fix (i := 1) rfl ?_
  dsimp only [List.set, OO.d, B.of]
  have hat : ∀ j : Int, 0 ≤ j → j < 20 → atI (ns.map D.int) j = some (.int (getI ns j)) := fun j h0 h1 => atI_map h0 (by omega)
  have ev0 : ∀ {env : Pd.Env} (j : Int), env[1]? = some (.val (.lst (ns.map D.int))) → 0 ≤ j → j < 20 → EvD K (tOp (rIxL K) (tVar 1) (tC (.int j))) env (.int (getI ns j)) := fun j he h0 h1 => ev_op (ev_var he) ev_int (o_ixL (ds := ns.map D.int) (hat j h0 h1) rfl)
  generalize hm0 : getI ns 0 = m0
  have evm : ∀ {env : Pd.Env}, env[1]? = some (.val (.lst (ns.map D.int))) → EvD K (tOp (rIxL K) (tVar 1) (tC (.int 0))) env (.int m0) := fun he => hm0 ▸ ev0 0 he (by decide) (by decide)
  have a1 := emod_bd (a := m0) (b := 4) (by decide)
  have b1 := emod_bd (a := m0 / 4) (b := 3) (by decide)
  have c1 := emod_bd (a := m0 / 12) (b := 4) (by decide)
  have d1 := emod_bd (a := m0 / 48) (b := 13) (by decide)
  refine q_asg (r := .n (.lst [.int (1 + m0 % 4), .int (1 + m0 / 4 % 3), .int (m0 / 12 % 4), .int (m0 / 48 % 13)])) (ev_lst (ea_cons ?ga (ea_cons ?gb (ea_cons ?gc (ea_cons ?gd ea_nil)))) (by simp)) ?_
  case ga => exact ev_op ev_int (ev_op (ev_cb (ea_cons (evm rfl) ea_nil) c_int) ev_int (o_ic (by decide))) o_i
  case gb => exact ev_op ev_int (ev_op (ev_cb (ea_cons (ev_op (evm rfl) ev_int (o_ic ⟨by decide, by decide⟩)) ea_nil) c_int) ev_int (o_ic (by decide))) o_i
  case gc => exact ev_op (ev_cb (ea_cons (ev_op (evm rfl) ev_int (o_ic ⟨by decide, by decide⟩)) ea_nil) c_int) ev_int (o_ic (by decide))
  case gd => exact ev_op (ev_cb (ea_cons (ev_op (evm rfl) ev_int (o_ic ⟨by decide, by decide⟩)) ea_nil) c_int) ev_int (o_ic (by decide))
  dsimp only [List.set, B.of]
  refine q_seq (R1 := fun o => ∃ a b c d : Int, o = .nx [.val (.sls (sc.map D.int)), .val (.lst (ns.map D.int)), .own (.lst [.int a, .int b, .int c, .int d]), .no, .no, .no, .no, .no, .no] ∧ (1 ≤ a ∧ a ≤ 64) ∧ (1 ≤ b ∧ b ≤ 128) ∧ (0 ≤ c ∧ c ≤ 36) ∧ (0 ≤ d ∧ d ≤ 12)) (q_if (b := decide (m0 / 624 % 6 = 1)) ?_ (fun _ => ?_) (fun _ => q_nil ⟨_, _, _, _, rfl, by omega, by omega, by omega, by omega⟩)) ?_ ?_
  · exact eb_b (ev_op (ev_op (ev_cb (ea_cons (ev_op (evm rfl) ev_int (o_ic ⟨by decide, by decide⟩)) ea_nil) c_int) ev_int (o_ic (by decide))) ev_int o_eqI)
  · exact r_asg (r := .n (.lst [.int 64, .int 128, .int 36, .int 12])) (ev_lst (ea_cons ev_int (ea_cons ev_int (ea_cons ev_int (ea_cons ev_int ea_nil)))) (by simp)) ⟨64, 128, 36, 12, rfl, by omega, by omega, by omega, by omega⟩
  rotate_left
  · rintro o ⟨a, b, c, d, rfl, _⟩ hn
    exact (hn _ rfl).elim
  rintro e ⟨a, b, c, d, e0, ha, hb, hc, hd⟩
  cases e0
  refine q_fix (i := 2) rfl ?_
  dsimp only [List.set, OO.d]
  -- the parts, with one edge and one end more
  refine q_tup2 (i := 3) (m := 3) (ev_callP (ea_cons (ev_var rfl) (ea_cons ev_int (ea_cons (ev_var rfl) (ea_cons ev_bl ea_nil)))) dfl_nil ⟨ns, 1, a, b, c, d, false, rfl, by omega, by omega, by omega, by omega, by omega, by omega, by omega, by omega, by omega, by omega, hns, rfl⟩ rfl) (by simp) ?_
  rintro r ⟨es, ends, rfl, ok, hel, henl, -⟩
  have evq : ∀ (x y : Addr) {env : Pd.Env} (j : Int) (z : D), env[3]? = some (.val (.tup ([D.int a, .int b, .int (a + c)] ++ [.cls x, .cls y]))) → atI ([D.int a, .int b, .int (a + c)] ++ [.cls x, .cls y]) j = some z → EvD K (tOp (rIxT K) (tVar 3) (tC (.int j))) env z := fun x y env j z he hx => ev_op (ev_var he) ev_int (o_ixT hx)
  refine ⟨_, _, _, encE (a + c - 1, b - 1, a + c - 1), .int (a + c - 1), rfl, rfl, by rw [List.length_map]; omega, by rw [List.length_map]; omega, fun x y => ?_, fun x y => ?_, ?_⟩
  · exact ev_tup (ea_cons (ev_op (evq x y 2 (.int (a + c)) rfl rfl) ev_int o_i) (ea_cons (ev_op (evq x y 1 (.int b) rfl rfl) ev_int o_i) (ea_cons (ev_op (evq x y 2 (.int (a + c)) rfl rfl) ev_int o_i) ea_nil))) (by simp)
  · exact ev_op (evq x y 2 (.int (a + c)) rfl rfl) ev_int o_i
  rw [map_snoc, map_snoc]
  generalize hes' : es ++ [(a + c - 1, b - 1, a + c - 1)] = es1
  generalize hen' : ends ++ [a + c - 1] = ends1
  have nok : NetOk a b (a + c) es1 ends1 := by
    refine ⟨by omega, by omega, by omega, ?_, ?_, ?_, ?_⟩
    · rw [← hes']
      exact all_snoc ok.fit (fit_iff.mpr ⟨⟨by dsimp only; omega, by dsimp only; omega⟩, ⟨by dsimp only; omega, by dsimp only; omega⟩, ⟨by dsimp only; omega, by dsimp only; omega⟩⟩)
    · rw [← hen']
      exact all_snoc ok.en ⟨by omega, by omega⟩
    · rw [← hes', List.length_append, List.length_singleton]; omega
    · rw [← hen', List.length_append, List.length_singleton]; omega
  have le1 : es1.length ≤ 13 := by rw [← hes', List.length_append, List.length_singleton]; omega
  have le2 : ends1.length ≤ 101 := by rw [← hen', List.length_append, List.length_singleton]; omega
  dsimp only [List.set, List.cons_append, List.nil_append]
  have k1 := emod_bd (a := getI ns 15) (b := 10) (by decide)
  refine q_asg (r := .v (.int (getI ns 15 % 10))) (ev_op (ev_cb (ea_cons (ev0 15 rfl (by decide) (by decide)) ea_nil) c_int) ev_int (o_ic (by decide))) ?_
  dsimp only [List.set, B.of]
  generalize getI ns 15 % 10 = kind at k1
  refine q_asgP (ev_callP (ea_cons (ev_var rfl) (ea_cons (ev_var rfl) (ea_cons (ev_var rfl) (ea_cons ev_int ea_nil)))) dfl_nil ⟨a, b, a + c, es1, ends1, kind, ns, rfl, nok, by omega, by omega, by omega, by omega, by omega, rfl⟩ rfl) ?_
  rintro r ⟨s', l', n', es', ends', rfl, f1, f2, cases_⟩
  dsimp only [List.set, B.of]
  have evd : ∀ {env : Pd.Env} (j : Int) (x : D), env[5]? = some (.val (partsD s' l' n' es' ends')) → atI [D.int s', .int l', .int n', .lst (es'.map encE), .lst (ends'.map D.int)] j = some x → EvD K (tOp (rIxT K) (tVar 5) (tC (.int j))) env x := fun j x he hx => ev_op (ev_var he) ev_int (o_ixT hx)
  refine q_asg (r := .v (.lst [.lst (es'.map encE), .lst (ends'.map D.int)])) (Ev.d (ev_lst (ea_cons (Ev.d (ev_cb (ea_cons (evd 3 (.lst (es'.map encE)) rfl rfl) ea_nil) (c_listL (ds := es'.map encE) rfl))) (ea_cons (Ev.d (ev_cb (ea_cons (evd 4 (.lst (ends'.map D.int)) rfl rfl) ea_nil) (c_listL (ds := ends'.map D.int) rfl))) ea_nil)) (by simp))) ?_
  dsimp only [List.set, B.of, OO.d]
  have evs : ∀ {env : Pd.Env} (j : Int) (x : D), env[6]? = some (.val (.lst [.lst (es'.map encE), .lst (ends'.map D.int)])) → atI [D.lst (es'.map encE), .lst (ends'.map D.int)] j = some x → EvD K (tOp (rIxL K) (tVar 6) (tC (.int j))) env x := fun j x he hx => ev_op (ev_var he) ev_int (o_ixL (ds := [D.lst (es'.map encE), .lst (ends'.map D.int)]) hx rfl)
  let en : B → B → Pd.Env := fun b7 b8 => [.val (.sls (sc.map D.int)), .val (.lst (ns.map D.int)), .val (.lst [.int a, .int b, .int c, .int d]), .val (partsD a b (a + c) es1 ends1), .val (.int kind), .val (partsD s' l' n' es' ends'), .val (.lst [.lst (es'.map encE), .lst (ends'.map D.int)]), b7, b8]
  refine q_seq (R1 := fun o => (kind < 2 ∧ ∃ b8, o = .nx (en (.val (netD T.c_Net (netOf s' l' n' es' ends'))) b8)) ∨ o = .rt (.v (.bl true))) (q_try (Xc := fun Ce e => Ce = T.c_InvalidNet ∧ 2 ≤ kind ∧ e = en .no .no) T.em_InvalidNet ?_ (fun W => x_make (ea_cons (evd 0 (.int s') rfl rfl) (ea_cons (evd 1 (.int l') rfl rfl) (ea_cons (evd 2 (.int n') rfl rfl) (ea_cons (evs 0 (.lst (es'.map encE)) rfl rfl) (ea_cons (evs 1 (.lst (ends'.map D.int)) rfl rfl) ea_nil))))) ⟨s', l', n', es', ends', rfl, f1, f2, rfl⟩ ?_ ?_ rfl) (fun Ce e q => q.1) ?_) ?_ ?_
  · rintro C (⟨_, b8, z⟩ | z) <;> cases z
  · intro fs hfs
    rcases cases_ with ⟨hk, rfl, rfl, rfl, rfl, rfl⟩ | ⟨hk, hbad⟩
    · unfold mkN at hfs
      rw [netOk_bad nok] at hfs
      cases hfs
      exact .inl ⟨hk, .no, rfl⟩
    · unfold mkN at hfs
      rw [hbad] at hfs
      cases hfs
  · intro Ce hCe
    rcases cases_ with ⟨hk, rfl, rfl, rfl, rfl, rfl⟩ | ⟨hk, hbad⟩
    · unfold mkN at hCe
      rw [netOk_bad nok] at hCe
      cases hCe
    · unfold mkN at hCe
      rw [hbad] at hCe
      cases hCe
      exact ⟨rfl, hk, rfl⟩
  · rintro x e ⟨-, hk, rfl⟩
    dsimp only [en, List.set]
    refine q_then (q_if (b := false) (EvB.is (b := (!decide (es' = es')) || ((!decide (ends' = ends')) || decide (kind < 2))) (eb_or (eb_b (ev_op (evs 0 (.lst (es'.map encE)) rfl rfl) (evd 3 (.lst (es'.map encE)) rfl rfl) (o_neL (xs := es') (ys := es') encEE rfl rfl))) fun _ => eb_or (eb_b (ev_op (evs 1 (.lst (ends'.map D.int)) rfl rfl) (evd 4 (.lst (ends'.map D.int)) rfl rfl) (o_neL (xs := ends') (ys := ends') encI rfl rfl))) fun _ => eb_b (ev_op (ev_var rfl) ev_int o_b)) (by simp; omega)) (fun z => nomatch z) fun _ => q_nil rfl) ?_
    refine q_then (q_if (b := false) (EvB.is (b := !true || !true) (eb_or (eb_not (eb_test (ev_cb (ea_cons (ev_var rfl) (ea_cons ev_cls ea_nil)) (c_isE rfl T.ki_InvalidNet_PileError)))) fun _ => eb_not (eb_test (ev_cb (ea_cons (ev_var rfl) (ea_cons ev_ty ea_nil)) (c_isE rfl T.ki_InvalidNet_ValueError)))) rfl) (fun z => nomatch z) fun _ => q_nil rfl) ?_
    refine q_then (q_if (b := false) (EvB.is (b := false || (false || false)) (eb_or (eb_test (ev_cb (ea_cons (ev_var rfl) (ea_cons ev_cls ea_nil)) (c_isE rfl T.ki_InvalidNet_NoStep))) fun _ => eb_or (eb_test (ev_cb (ea_cons (ev_var rfl) (ea_cons ev_cls ea_nil)) (c_isE rfl T.ki_InvalidNet_InvalidProgram))) fun _ => eb_test (ev_cb (ea_cons (ev_var rfl) (ea_cons ev_cls ea_nil)) (c_isE rfl T.ki_InvalidNet_InvalidText))) rfl) (fun z => nomatch z) fun _ => q_nil rfl) ?_
    refine' q_ret (r := .v (.bl (!false && (!false && !false)))) (ev_andV (ev_notV (ev_cb (ea_cons (ev_var rfl) (ea_cons ev_cls ea_nil)) (c_isE rfl T.ki_InvalidNet_InvalidMachine))) fun _ => ev_andV (ev_notV (ev_cb (ea_cons (ev_var rfl) (ea_cons ev_cls ea_nil)) (c_isE rfl T.ki_InvalidNet_Mismatch))) fun _ => ev_notV (ev_cb (ea_cons (ev_var rfl) (ea_cons ev_cls ea_nil)) (c_isE rfl T.ki_InvalidNet_NotPlain))) (.inr rfl)
  · rintro e (⟨hk, b8, e0⟩ | e0)
    · cases e0
      dsimp only [en]
      rcases cases_ with ⟨_, rfl, rfl, rfl, rfl, rfl⟩ | ⟨hk2, _⟩
      · refine q_ret (r := .v (.bl (decide (kind < 2) && true))) (ev_andV (ev_op (ev_var rfl) ev_int o_b) fun _ => ev_call (ea_cons (ev_var rfl) (ea_cons (ev_var rfl) ea_nil)) dfl_nil ⟨_, _, _, _, _, rfl, nok, by omega, by omega, rfl⟩ rfl) (.inl ⟨_, ?_, rfl⟩)
        show Pd.R.v (.bl (decide (kind < 2) && true)) = .v (.bl true)
        rw [decide_eq_true hk]
        rfl
      · omega
    · cases e0
  · rintro o (⟨hk, b8, rfl⟩ | rfl) hn
    · exact (hn _ rfl).elim
    · exact .inl ⟨_, rfl, rfl⟩
end
end K08
namespace K08
open PySem L2 Pd
theorem law_asks {K : PySem.W.Frag} (H : Hp) (E : XK) (a : Addr) (ns : List Int) (hl : ns.length ≤ 63) (hS : SqL K H a (ns.map V.int)) : spF K 1 rl_law [.ref a] H (fun v _ => v = .bl true) E :=
  ⟨H, [.sls (ns.map D.int)], (· = .v (.bl true)), Same.refl _, .cons (.sls hS (.of_map (fun _ => .int) _)) .nil, rfl, ⟨ns, rfl, hl, rfl⟩, fun r e u G' H' _ ra => by
    subst e
    cases ra with
    | v h => cases h; rfl⟩
theorem all_mk {l : PySem.W.OpenLaw} {w : World} {K : PySem.W.Frag} {h : Heap} {mg : Str → Option Value} {fa : Addr} (X : K.In h) (G : h.Ns mainGlobals mg) (hfa : mg "law" = some (.ref fa))
    {C_PileError C_InvalidMachine C_InvalidNet C_Mismatch C_NotPlain C_NoStep C_InvalidProgram C_InvalidText C_Net A_fits A_Net_init A__law_numbers A__law_parts A__law_is_number A__law_are_numbers A__law_once A__law_kept A__law_outside A__law_placed A__law_spoilt A_law : Addr} {oc_fits kV_fits dc_fits pm_fits cd_fits ct_fits oc_Net_init kV_Net_init dc_Net_init pm_Net_init cd_Net_init ct_Net_init oc__law_numbers kV__law_numbers dc__law_numbers pm__law_numbers cd__law_numbers ct__law_numbers oc__law_parts kV__law_parts dc__law_parts pm__law_parts cd__law_parts ct__law_parts oc__law_is_number kV__law_is_number dc__law_is_number pm__law_is_number cd__law_is_number ct__law_is_number oc__law_are_numbers kV__law_are_numbers dc__law_are_numbers pm__law_are_numbers cd__law_are_numbers ct__law_are_numbers oc__law_once kV__law_once dc__law_once pm__law_once cd__law_once ct__law_once oc__law_kept kV__law_kept dc__law_kept pm__law_kept cd__law_kept ct__law_kept oc__law_outside kV__law_outside dc__law_outside pm__law_outside cd__law_outside ct__law_outside oc__law_placed kV__law_placed dc__law_placed pm__law_placed cd__law_placed ct__law_placed oc__law_spoilt kV__law_spoilt dc__law_spoilt pm__law_spoilt cd__law_spoilt ct__law_spoilt oc_law kV_law dc_law pm_law cd_law ct_law : Value} {od_fits an_fits od_Net_init an_Net_init od__law_numbers an__law_numbers od__law_parts an__law_parts od__law_is_number an__law_is_number od__law_are_numbers an__law_are_numbers od__law_once an__law_once od__law_kept an__law_kept od__law_outside an__law_outside od__law_placed an__law_placed od__law_spoilt an__law_spoilt od_law an_law : Option Addr} {sl_fits sl_Net_init sl__law_numbers sl__law_parts sl__law_is_number sl__law_are_numbers sl__law_once sl__law_kept sl__law_outside sl__law_placed sl__law_spoilt sl_law : Array (Option Value)}
    (hn_PileError : PySem.W.nsIn K mainGlobals "PileError" = some (some (.ref C_PileError)))
    (hn_InvalidMachine : PySem.W.nsIn K mainGlobals "InvalidMachine" = some (some (.ref C_InvalidMachine)))
    (hn_InvalidNet : PySem.W.nsIn K mainGlobals "InvalidNet" = some (some (.ref C_InvalidNet)))
    (hn_Mismatch : PySem.W.nsIn K mainGlobals "Mismatch" = some (some (.ref C_Mismatch)))
    (hn_NotPlain : PySem.W.nsIn K mainGlobals "NotPlain" = some (some (.ref C_NotPlain)))
    (hn_NoStep : PySem.W.nsIn K mainGlobals "NoStep" = some (some (.ref C_NoStep)))
    (hn_InvalidProgram : PySem.W.nsIn K mainGlobals "InvalidProgram" = some (some (.ref C_InvalidProgram)))
    (hn_InvalidText : PySem.W.nsIn K mainGlobals "InvalidText" = some (some (.ref C_InvalidText)))
    (hn_Net : PySem.W.nsIn K mainGlobals "Net" = some (some (.ref C_Net)))
    (hn_fits : PySem.W.nsIn K mainGlobals "fits" = some (some (.ref A_fits)))
    (hn__law_numbers : PySem.W.nsIn K mainGlobals "_law_numbers" = some (some (.ref A__law_numbers)))
    (hn__law_parts : PySem.W.nsIn K mainGlobals "_law_parts" = some (some (.ref A__law_parts)))
    (hn__law_is_number : PySem.W.nsIn K mainGlobals "_law_is_number" = some (some (.ref A__law_is_number)))
    (hn__law_are_numbers : PySem.W.nsIn K mainGlobals "_law_are_numbers" = some (some (.ref A__law_are_numbers)))
    (hn__law_once : PySem.W.nsIn K mainGlobals "_law_once" = some (some (.ref A__law_once)))
    (hn__law_kept : PySem.W.nsIn K mainGlobals "_law_kept" = some (some (.ref A__law_kept)))
    (hn__law_outside : PySem.W.nsIn K mainGlobals "_law_outside" = some (some (.ref A__law_outside)))
    (hn__law_placed : PySem.W.nsIn K mainGlobals "_law_placed" = some (some (.ref A__law_placed)))
    (hn__law_spoilt : PySem.W.nsIn K mainGlobals "_law_spoilt" = some (some (.ref A__law_spoilt)))
    (hn_law : PySem.W.nsIn K mainGlobals "law" = some (some (.ref A_law)))
    (hm_Net_init : PySem.W.findIn K (.ref C_Net) "__init__" = some (some (.ref A_Net_init)))
    (hb_ValueError : PySem.W.nsIn K mainGlobals "ValueError" = some none)
    (hb_all : PySem.W.nsIn K mainGlobals "all" = some none)
    (hb_bool : PySem.W.nsIn K mainGlobals "bool" = some none)
    (hb_int : PySem.W.nsIn K mainGlobals "int" = some none)
    (hb_isinstance : PySem.W.nsIn K mainGlobals "isinstance" = some none)
    (hb_len : PySem.W.nsIn K mainGlobals "len" = some none)
    (hb_list : PySem.W.nsIn K mainGlobals "list" = some none)
    (hb_range : PySem.W.nsIn K mainGlobals "range" = some none)
    (hb_set : PySem.W.nsIn K mainGlobals "set" = some none)
    (hb_sorted : PySem.W.nsIn K mainGlobals "sorted" = some none)
    (hb_tuple : PySem.W.nsIn K mainGlobals "tuple" = some none)
    (h1_Net : PySem.W.plainGet K C_Net Str.empty = true)
    (h2_Net : PySem.W.hasDictIn K C_Net = true)
    (h3_Net : PySem.W.plainOver K C_Net = true)
    (h4_Net : PySem.W.findIn K (.ref C_Net) "__setattr__" = some (some (.builtin "object.__setattr__")))
    (hf_Net_states : PySem.W.findIn K (.ref C_Net) "states" = some none)
    (hf_Net_letters : PySem.W.findIn K (.ref C_Net) "letters" = some none)
    (hf_Net_nodes : PySem.W.findIn K (.ref C_Net) "nodes" = some none)
    (hf_Net_edges : PySem.W.findIn K (.ref C_Net) "edges" = some none)
    (hf_Net_ends : PySem.W.findIn K (.ref C_Net) "ends" = some none)
    (hf_Net__goals : PySem.W.findIn K (.ref C_Net) "_goals" = some none)
    (hx1_InvalidNet : PySem.W.excIn K C_InvalidNet [.type "ValueError", .type "Exception", .type "BaseException", .type "object"] "ValueError.__new__" = true)
    (hx2_InvalidNet : PySem.W.keepIn K (.ref C_InvalidNet) = true)
    (hx3_InvalidNet : PySem.W.subIn K (.ref C_InvalidNet) (.type "BaseException") = some true)
    (hx4_InvalidNet : PySem.W.typeIn K (.ref C_InvalidNet) = some (.type "type"))
    (hx5_InvalidNet : PySem.W.subIn K (.ref C_InvalidNet) (.ref C_InvalidNet) = some true)
    (hx6_InvalidNet : PySem.W.findIn K (.ref C_InvalidNet) "__getattribute__" = some (some (.builtin "BaseException.__getattribute__")))
    (hx7_InvalidNet : PySem.W.findIn K (.ref C_InvalidNet) "__getattr__" = some none)
    (hx8_InvalidNet : PySem.W.subIn K (.ref C_InvalidNet) (.type "BaseException") = some true)
    (hx9_InvalidNet : PySem.W.hasDictIn K C_InvalidNet = true)
    (hx10_InvalidNet : PySem.W.findIn K (.ref C_InvalidNet) "__class__" = some (some (.builtin "object.__class__")))
    (hx11_InvalidNet : PySem.W.specialIn K (.builtin "object.__class__") "__get__" = some (some (.builtin "getset_descriptor.__get__")))
    (hx12_InvalidNet : PySem.W.takesIn K (.builtin "object.__class__") = some true)
    (hx13_InvalidNet : PySem.W.mroIn K C_InvalidNet (.type "object") = some true)
    (hy1_Net : PySem.W.findIn K (.ref C_Net) "__class__" = some (some (.builtin "object.__class__")))
    (hy2_Net : PySem.W.specialIn K (.builtin "object.__class__") "__get__" = some (some (.builtin "getset_descriptor.__get__")))
    (hy3_Net : PySem.W.takesIn K (.builtin "object.__class__") = some true)
    (hy4_Net : PySem.W.mroIn K C_Net (.type "object") = some true)
    (hz_InvalidNet_InvalidMachine : PySem.W.subIn K (.ref C_InvalidNet) (.ref C_InvalidMachine) = some false)
    (hu_InvalidNet_InvalidMachine : (C_InvalidNet == C_InvalidMachine) = false)
    (hz_InvalidNet_InvalidProgram : PySem.W.subIn K (.ref C_InvalidNet) (.ref C_InvalidProgram) = some false)
    (hu_InvalidNet_InvalidProgram : (C_InvalidNet == C_InvalidProgram) = false)
    (hz_InvalidNet_InvalidText : PySem.W.subIn K (.ref C_InvalidNet) (.ref C_InvalidText) = some false)
    (hu_InvalidNet_InvalidText : (C_InvalidNet == C_InvalidText) = false)
    (hz_InvalidNet_Mismatch : PySem.W.subIn K (.ref C_InvalidNet) (.ref C_Mismatch) = some false)
    (hu_InvalidNet_Mismatch : (C_InvalidNet == C_Mismatch) = false)
    (hz_InvalidNet_NoStep : PySem.W.subIn K (.ref C_InvalidNet) (.ref C_NoStep) = some false)
    (hu_InvalidNet_NoStep : (C_InvalidNet == C_NoStep) = false)
    (hz_InvalidNet_NotPlain : PySem.W.subIn K (.ref C_InvalidNet) (.ref C_NotPlain) = some false)
    (hu_InvalidNet_NotPlain : (C_InvalidNet == C_NotPlain) = false)
    (hz_InvalidNet_PileError : PySem.W.subIn K (.ref C_InvalidNet) (.ref C_PileError) = some true)
    (hu_InvalidNet_PileError : (C_InvalidNet == C_PileError) = false)
    (hz_InvalidNet_ValueError : PySem.W.subIn K (.ref C_InvalidNet) (.type "ValueError") = some true)
    (hw_InvalidMachine : PySem.W.isClsIn K C_InvalidMachine = true)
    (hv_InvalidMachine : PySem.W.typeIn K (.ref C_InvalidMachine) = some (.type "type"))
    (hw_InvalidProgram : PySem.W.isClsIn K C_InvalidProgram = true)
    (hv_InvalidProgram : PySem.W.typeIn K (.ref C_InvalidProgram) = some (.type "type"))
    (hw_InvalidText : PySem.W.isClsIn K C_InvalidText = true)
    (hv_InvalidText : PySem.W.typeIn K (.ref C_InvalidText) = some (.type "type"))
    (hw_Mismatch : PySem.W.isClsIn K C_Mismatch = true)
    (hv_Mismatch : PySem.W.typeIn K (.ref C_Mismatch) = some (.type "type"))
    (hw_NoStep : PySem.W.isClsIn K C_NoStep = true)
    (hv_NoStep : PySem.W.typeIn K (.ref C_NoStep) = some (.type "type"))
    (hw_NotPlain : PySem.W.isClsIn K C_NotPlain = true)
    (hv_NotPlain : PySem.W.typeIn K (.ref C_NotPlain) = some (.type "type"))
    (hw_PileError : PySem.W.isClsIn K C_PileError = true)
    (hv_PileError : PySem.W.typeIn K (.ref C_PileError) = some (.type "type"))
    (hl_fits : K.lookup A_fits = some ⟨oc_fits, od_fits, .func (PySem.W.fnOf "fits" "fits" (defArgs s_fits) (defBody s_fits) (defScope s_fits) .none kV_fits dc_fits pm_fits an_fits cd_fits ct_fits), sl_fits⟩)
    (hc_fits : PySem.W.codeIn K cd_fits "fits" = true)
    (hk_fits : PySem.W.keepIn K (.ref A_fits) = true)
    (hl_Net_init : K.lookup A_Net_init = some ⟨oc_Net_init, od_Net_init, .func (PySem.W.fnOf "__init__" "Net.__init__" (defArgs s_Net_init) (defBody s_Net_init) (defScope s_Net_init) .none kV_Net_init dc_Net_init pm_Net_init an_Net_init cd_Net_init ct_Net_init), sl_Net_init⟩)
    (hc_Net_init : PySem.W.codeIn K cd_Net_init "Net.__init__" = true)
    (hk_Net_init : PySem.W.keepIn K (.ref A_Net_init) = true)
    (hi_Net_init : PySem.W.isFn K (.ref A_Net_init) = true)
    (hq1_Net : PySem.W.makesIn K C_Net = true)
    (hq2_Net : PySem.W.keepIn K (.ref C_Net) = true)
    (hl__law_numbers : K.lookup A__law_numbers = some ⟨oc__law_numbers, od__law_numbers, .func (PySem.W.fnOf "_law_numbers" "_law_numbers" (defArgs s__law_numbers) (defBody s__law_numbers) (defScope s__law_numbers) .none kV__law_numbers dc__law_numbers pm__law_numbers an__law_numbers cd__law_numbers ct__law_numbers), sl__law_numbers⟩)
    (hc__law_numbers : PySem.W.codeIn K cd__law_numbers "_law_numbers" = true)
    (hk__law_numbers : PySem.W.keepIn K (.ref A__law_numbers) = true)
    (hl__law_parts : K.lookup A__law_parts = some ⟨oc__law_parts, od__law_parts, .func (PySem.W.fnOf "_law_parts" "_law_parts" (defArgs s__law_parts) (defBody s__law_parts) (defScope s__law_parts) .none kV__law_parts dc__law_parts pm__law_parts an__law_parts cd__law_parts ct__law_parts), sl__law_parts⟩)
    (hc__law_parts : PySem.W.codeIn K cd__law_parts "_law_parts" = true)
    (hk__law_parts : PySem.W.keepIn K (.ref A__law_parts) = true)
    (hl__law_is_number : K.lookup A__law_is_number = some ⟨oc__law_is_number, od__law_is_number, .func (PySem.W.fnOf "_law_is_number" "_law_is_number" (defArgs s__law_is_number) (defBody s__law_is_number) (defScope s__law_is_number) .none kV__law_is_number dc__law_is_number pm__law_is_number an__law_is_number cd__law_is_number ct__law_is_number), sl__law_is_number⟩)
    (hc__law_is_number : PySem.W.codeIn K cd__law_is_number "_law_is_number" = true)
    (hk__law_is_number : PySem.W.keepIn K (.ref A__law_is_number) = true)
    (hl__law_are_numbers : K.lookup A__law_are_numbers = some ⟨oc__law_are_numbers, od__law_are_numbers, .func (PySem.W.fnOf "_law_are_numbers" "_law_are_numbers" (defArgs s__law_are_numbers) (defBody s__law_are_numbers) (defScope s__law_are_numbers) .none kV__law_are_numbers dc__law_are_numbers pm__law_are_numbers an__law_are_numbers cd__law_are_numbers ct__law_are_numbers), sl__law_are_numbers⟩)
    (hc__law_are_numbers : PySem.W.codeIn K cd__law_are_numbers "_law_are_numbers" = true)
    (hk__law_are_numbers : PySem.W.keepIn K (.ref A__law_are_numbers) = true)
    (hl__law_once : K.lookup A__law_once = some ⟨oc__law_once, od__law_once, .func (PySem.W.fnOf "_law_once" "_law_once" (defArgs s__law_once) (defBody s__law_once) (defScope s__law_once) .none kV__law_once dc__law_once pm__law_once an__law_once cd__law_once ct__law_once), sl__law_once⟩)
    (hc__law_once : PySem.W.codeIn K cd__law_once "_law_once" = true)
    (hk__law_once : PySem.W.keepIn K (.ref A__law_once) = true)
    (hl__law_kept : K.lookup A__law_kept = some ⟨oc__law_kept, od__law_kept, .func (PySem.W.fnOf "_law_kept" "_law_kept" (defArgs s__law_kept) (defBody s__law_kept) (defScope s__law_kept) .none kV__law_kept dc__law_kept pm__law_kept an__law_kept cd__law_kept ct__law_kept), sl__law_kept⟩)
    (hc__law_kept : PySem.W.codeIn K cd__law_kept "_law_kept" = true)
    (hk__law_kept : PySem.W.keepIn K (.ref A__law_kept) = true)
    (hl__law_outside : K.lookup A__law_outside = some ⟨oc__law_outside, od__law_outside, .func (PySem.W.fnOf "_law_outside" "_law_outside" (defArgs s__law_outside) (defBody s__law_outside) (defScope s__law_outside) .none kV__law_outside dc__law_outside pm__law_outside an__law_outside cd__law_outside ct__law_outside), sl__law_outside⟩)
    (hc__law_outside : PySem.W.codeIn K cd__law_outside "_law_outside" = true)
    (hk__law_outside : PySem.W.keepIn K (.ref A__law_outside) = true)
    (hl__law_placed : K.lookup A__law_placed = some ⟨oc__law_placed, od__law_placed, .func (PySem.W.fnOf "_law_placed" "_law_placed" (defArgs s__law_placed) (defBody s__law_placed) (defScope s__law_placed) .none kV__law_placed dc__law_placed pm__law_placed an__law_placed cd__law_placed ct__law_placed), sl__law_placed⟩)
    (hc__law_placed : PySem.W.codeIn K cd__law_placed "_law_placed" = true)
    (hk__law_placed : PySem.W.keepIn K (.ref A__law_placed) = true)
    (hl__law_spoilt : K.lookup A__law_spoilt = some ⟨oc__law_spoilt, od__law_spoilt, .func (PySem.W.fnOf "_law_spoilt" "_law_spoilt" (defArgs s__law_spoilt) (defBody s__law_spoilt) (defScope s__law_spoilt) .none kV__law_spoilt dc__law_spoilt pm__law_spoilt an__law_spoilt cd__law_spoilt ct__law_spoilt), sl__law_spoilt⟩)
    (hc__law_spoilt : PySem.W.codeIn K cd__law_spoilt "_law_spoilt" = true)
    (hk__law_spoilt : PySem.W.keepIn K (.ref A__law_spoilt) = true)
    (hl_law : K.lookup A_law = some ⟨oc_law, od_law, .func (PySem.W.fnOf "law" "law" (defArgs s_law) (defBody s_law) (defScope s_law) .none kV_law dc_law pm_law an_law cd_law ct_law), sl_law⟩)
    (hc_law : PySem.W.codeIn K cd_law "law" = true)
    (hk_law : PySem.W.keepIn K (.ref A_law) = true)
    : ∃ fd : FuncData, (∀ (s : Shared) (v : Value), BindsTo s fd ⟨[v], []⟩ [("_law_script", v)]) ∧ ∀ base : Heap, K.In base → base.Ns mainGlobals mg → FnOk l.prog w K mg base CX0 4 fa fd ["_law_script"] (spF K 1 rl_law) := by
  have e := hfa.symm.trans (PySem.W.mg_of X G hn_law)
  cases e
  have F_fits := fun_mk (st := s_fits) hl_fits hc_fits hk_fits
  have B_fits := F_fits.binds (ps := ["edge", "letters", "nodes"]) fun _ _ _ _ _ _ us hl => match us, hl with | [_, _, _], _ => rfl
  have F_Net_init := fun_mk (st := s_Net_init) hl_Net_init hc_Net_init hk_Net_init
  have B_Net_init := F_Net_init.binds (ps := ["self", "states", "letters", "nodes", "edges", "ends"]) fun _ _ _ _ _ _ us hl => match us, hl with | [_, _, _, _, _, _], _ => rfl
  have F__law_numbers := fun_mk (st := s__law_numbers) hl__law_numbers hc__law_numbers hk__law_numbers
  have B__law_numbers := F__law_numbers.binds (ps := ["_law_script", "_law_count"]) fun _ _ _ _ _ _ us hl => match us, hl with | [_, _], _ => rfl
  have F__law_parts := fun_mk (st := s__law_parts) hl__law_parts hc__law_parts hk__law_parts
  have B__law_parts := F__law_parts.binds (ps := ["_law_numbers_here", "_law_at", "_law_sizes", "_law_flat"]) fun _ _ _ _ _ _ us hl => match us, hl with | [_, _, _, _], _ => rfl
  have F__law_is_number := fun_mk (st := s__law_is_number) hl__law_is_number hc__law_is_number hk__law_is_number
  have B__law_is_number := F__law_is_number.binds (ps := ["_law_x"]) fun _ _ _ _ _ _ us hl => match us, hl with | [_], _ => rfl
  have F__law_are_numbers := fun_mk (st := s__law_are_numbers) hl__law_are_numbers hc__law_are_numbers hk__law_are_numbers
  have B__law_are_numbers := F__law_are_numbers.binds (ps := ["_law_xs"]) fun _ _ _ _ _ _ us hl => match us, hl with | [_], _ => rfl
  have F__law_once := fun_mk (st := s__law_once) hl__law_once hc__law_once hk__law_once
  have B__law_once := F__law_once.binds (ps := ["_law_rows"]) fun _ _ _ _ _ _ us hl => match us, hl with | [_], _ => rfl
  have F__law_kept := fun_mk (st := s__law_kept) hl__law_kept hc__law_kept hk__law_kept
  have B__law_kept := F__law_kept.binds (ps := ["_law_net", "_law_parts_here"]) fun _ _ _ _ _ _ us hl => match us, hl with | [_, _], _ => rfl
  have F__law_outside := fun_mk (st := s__law_outside) hl__law_outside hc__law_outside hk__law_outside
  have B__law_outside := F__law_outside.binds (ps := ["_law_number", "_law_limit"]) fun _ _ _ _ _ _ us hl => match us, hl with | [_, _], _ => rfl
  have F__law_placed := fun_mk (st := s__law_placed) hl__law_placed hc__law_placed hk__law_placed
  have B__law_placed := F__law_placed.binds (ps := ["_law_rows", "_law_row", "_law_number"]) fun _ _ _ _ _ _ us hl => match us, hl with | [_, _, _], _ => rfl
  have F__law_spoilt := fun_mk (st := s__law_spoilt) hl__law_spoilt hc__law_spoilt hk__law_spoilt
  have B__law_spoilt := F__law_spoilt.binds (ps := ["_law_parts_here", "_law_kind", "_law_numbers_here", "_law_at"]) fun _ _ _ _ _ _ us hl => match us, hl with | [_, _, _, _], _ => rfl
  have F_law := fun_mk (st := s_law) hl_law hc_law hk_law
  have B_law := F_law.binds (ps := ["_law_script"]) fun _ _ _ _ _ _ us hl => match us, hl with | [_], _ => rfl
  let T : Txt K mg := {
    b_ValueError := PySem.W.mg_none_of X G hb_ValueError,
    b_all := PySem.W.mg_none_of X G hb_all,
    b_bool := PySem.W.mg_none_of X G hb_bool,
    b_int := PySem.W.mg_none_of X G hb_int,
    b_isinstance := PySem.W.mg_none_of X G hb_isinstance,
    b_len := PySem.W.mg_none_of X G hb_len,
    b_list := PySem.W.mg_none_of X G hb_list,
    b_range := PySem.W.mg_none_of X G hb_range,
    b_set := PySem.W.mg_none_of X G hb_set,
    b_sorted := PySem.W.mg_none_of X G hb_sorted,
    b_tuple := PySem.W.mg_none_of X G hb_tuple,
    c_PileError := C_PileError,
    m_PileError := PySem.W.mg_of X G hn_PileError,
    c_InvalidMachine := C_InvalidMachine,
    m_InvalidMachine := PySem.W.mg_of X G hn_InvalidMachine,
    c_InvalidNet := C_InvalidNet,
    m_InvalidNet := PySem.W.mg_of X G hn_InvalidNet,
    c_Mismatch := C_Mismatch,
    m_Mismatch := PySem.W.mg_of X G hn_Mismatch,
    c_NotPlain := C_NotPlain,
    m_NotPlain := PySem.W.mg_of X G hn_NotPlain,
    c_NoStep := C_NoStep,
    m_NoStep := PySem.W.mg_of X G hn_NoStep,
    c_InvalidProgram := C_InvalidProgram,
    m_InvalidProgram := PySem.W.mg_of X G hn_InvalidProgram,
    c_InvalidText := C_InvalidText,
    m_InvalidText := PySem.W.mg_of X G hn_InvalidText,
    c_Net := C_Net,
    m_Net := PySem.W.mg_of X G hn_Net,
    cl_Net := ⟨h1_Net, h2_Net, h3_Net, h4_Net⟩,
    n_Net_states := hf_Net_states,
    n_Net_letters := hf_Net_letters,
    n_Net_nodes := hf_Net_nodes,
    n_Net_edges := hf_Net_edges,
    n_Net_ends := hf_Net_ends,
    n_Net__goals := hf_Net__goals,
    x_InvalidNet := hx1_InvalidNet,
    kx_InvalidNet := hx2_InvalidNet,
    bx_InvalidNet := hx3_InvalidNet,
    tx_InvalidNet := hx4_InvalidNet,
    em_InvalidNet := PySem.W.exm_ref hx3_InvalidNet hx9_InvalidNet hx4_InvalidNet hx5_InvalidNet,
    ec_InvalidNet := ⟨hx6_InvalidNet, hx7_InvalidNet, hx8_InvalidNet, hx9_InvalidNet, hx10_InvalidNet, hx11_InvalidNet, hx12_InvalidNet, hx13_InvalidNet⟩,
    ic_Net := ⟨hy1_Net, hy2_Net, hy3_Net, hy4_Net⟩,
    ki_InvalidNet_InvalidMachine := kit_ref hw_InvalidMachine hv_InvalidMachine hu_InvalidNet_InvalidMachine hz_InvalidNet_InvalidMachine,
    ki_InvalidNet_InvalidProgram := kit_ref hw_InvalidProgram hv_InvalidProgram hu_InvalidNet_InvalidProgram hz_InvalidNet_InvalidProgram,
    ki_InvalidNet_InvalidText := kit_ref hw_InvalidText hv_InvalidText hu_InvalidNet_InvalidText hz_InvalidNet_InvalidText,
    ki_InvalidNet_Mismatch := kit_ref hw_Mismatch hv_Mismatch hu_InvalidNet_Mismatch hz_InvalidNet_Mismatch,
    ki_InvalidNet_NoStep := kit_ref hw_NoStep hv_NoStep hu_InvalidNet_NoStep hz_InvalidNet_NoStep,
    ki_InvalidNet_NotPlain := kit_ref hw_NotPlain hv_NotPlain hu_InvalidNet_NotPlain hz_InvalidNet_NotPlain,
    ki_InvalidNet_PileError := kit_ref hw_PileError hv_PileError hu_InvalidNet_PileError hz_InvalidNet_PileError,
    ki_InvalidNet_ValueError := kit_typ (by decide +kernel) hz_InvalidNet_ValueError,
    ki_Net_Net := kit_self,
    a_fits := A_fits,
    fd_fits := _,
    F_fits := F_fits,
    k_fits := hk_fits,
    m_fits := PySem.W.mg_of X G hn_fits,
    bd_fits := B_fits,
    a_Net_init := A_Net_init,
    fd_Net_init := _,
    F_Net_init := F_Net_init,
    k_Net_init := hk_Net_init,
    mk_Net := ⟨hq1_Net, hm_Net_init, hi_Net_init, hq2_Net⟩,
    bd_Net_init := B_Net_init,
    a__law_numbers := A__law_numbers,
    fd__law_numbers := _,
    F__law_numbers := F__law_numbers,
    k__law_numbers := hk__law_numbers,
    m__law_numbers := PySem.W.mg_of X G hn__law_numbers,
    bd__law_numbers := B__law_numbers,
    a__law_parts := A__law_parts,
    fd__law_parts := _,
    F__law_parts := F__law_parts,
    k__law_parts := hk__law_parts,
    m__law_parts := PySem.W.mg_of X G hn__law_parts,
    bd__law_parts := B__law_parts,
    a__law_is_number := A__law_is_number,
    fd__law_is_number := _,
    F__law_is_number := F__law_is_number,
    k__law_is_number := hk__law_is_number,
    m__law_is_number := PySem.W.mg_of X G hn__law_is_number,
    bd__law_is_number := B__law_is_number,
    a__law_are_numbers := A__law_are_numbers,
    fd__law_are_numbers := _,
    F__law_are_numbers := F__law_are_numbers,
    k__law_are_numbers := hk__law_are_numbers,
    m__law_are_numbers := PySem.W.mg_of X G hn__law_are_numbers,
    bd__law_are_numbers := B__law_are_numbers,
    a__law_once := A__law_once,
    fd__law_once := _,
    F__law_once := F__law_once,
    k__law_once := hk__law_once,
    m__law_once := PySem.W.mg_of X G hn__law_once,
    bd__law_once := B__law_once,
    a__law_kept := A__law_kept,
    fd__law_kept := _,
    F__law_kept := F__law_kept,
    k__law_kept := hk__law_kept,
    m__law_kept := PySem.W.mg_of X G hn__law_kept,
    bd__law_kept := B__law_kept,
    a__law_outside := A__law_outside,
    fd__law_outside := _,
    F__law_outside := F__law_outside,
    k__law_outside := hk__law_outside,
    m__law_outside := PySem.W.mg_of X G hn__law_outside,
    bd__law_outside := B__law_outside,
    a__law_placed := A__law_placed,
    fd__law_placed := _,
    F__law_placed := F__law_placed,
    k__law_placed := hk__law_placed,
    m__law_placed := PySem.W.mg_of X G hn__law_placed,
    bd__law_placed := B__law_placed,
    a__law_spoilt := A__law_spoilt,
    fd__law_spoilt := _,
    F__law_spoilt := F__law_spoilt,
    k__law_spoilt := hk__law_spoilt,
    m__law_spoilt := PySem.W.mg_of X G hn__law_spoilt,
    bd__law_spoilt := B__law_spoilt,
    a_law := fa,
    fd_law := _,
    F_law := F_law,
    k_law := hk_law,
    m_law := PySem.W.mg_of X G hn_law,
    bd_law := B_law }
  exact ⟨PySem.W.fnOf "law" "law" (defArgs s_law) (defBody s_law) (defScope s_law) .none kV_law dc_law pm_law an_law cd_law ct_law, fun s v => .of_eq rfl, fun base _ _ => ok_law (P := l.prog) (w := w) (base := base) T⟩
end K08
end
open PySem PySem.W PyProof.Rows
set_option maxRecDepth 100000 in
set_option maxHeartbeats 0 in
theorem PySem.Challenge.cw_pilereach_k08_net_refusals_holds : PySem.Challenge.rw_pilereach_k08_net_refusals.Holds := by
  w_on; o_law; k_head; (case hw => w_witness2)
  k_fill
  refine L2.walk_of (l := PySem.Challenge.rw_pilereach_k08_net_refusals) (n := 63) (k := 4) (x := "_law_script") (CX := fun _ => L2.CX0) (sp := fun w => Pd.spF _ 1 K08.rl_law) rfl (by decide) rfl ⟨rfl, by decide, by decide⟩ (fun w h Y => PySem.W.kIn_of Y) ?F (fun _ _ a ns hl _ hS => K08.law_asks _ _ a ns hl hS) (fun _ _ _ _ _ h => h)
  case F =>
    intro w mg fa h KX G hmg
    refine' K08.all_mk KX G hmg ?hn_PileError ?hn_InvalidMachine ?hn_InvalidNet ?hn_Mismatch ?hn_NotPlain ?hn_NoStep ?hn_InvalidProgram ?hn_InvalidText ?hn_Net ?hn_fits ?hn__law_numbers ?hn__law_parts ?hn__law_is_number ?hn__law_are_numbers ?hn__law_once ?hn__law_kept ?hn__law_outside ?hn__law_placed ?hn__law_spoilt ?hn_law ?hm_Net_init ?hb_ValueError ?hb_all ?hb_bool ?hb_int ?hb_isinstance ?hb_len ?hb_list ?hb_range ?hb_set ?hb_sorted ?hb_tuple ?h1_Net ?h2_Net ?h3_Net ?h4_Net ?hf_Net_states ?hf_Net_letters ?hf_Net_nodes ?hf_Net_edges ?hf_Net_ends ?hf_Net__goals ?hx1_InvalidNet ?hx2_InvalidNet ?hx3_InvalidNet ?hx4_InvalidNet ?hx5_InvalidNet ?hx6_InvalidNet ?hx7_InvalidNet ?hx8_InvalidNet ?hx9_InvalidNet ?hx10_InvalidNet ?hx11_InvalidNet ?hx12_InvalidNet ?hx13_InvalidNet ?hy1_Net ?hy2_Net ?hy3_Net ?hy4_Net ?hz_InvalidNet_InvalidMachine ?hu_InvalidNet_InvalidMachine ?hz_InvalidNet_InvalidProgram ?hu_InvalidNet_InvalidProgram ?hz_InvalidNet_InvalidText ?hu_InvalidNet_InvalidText ?hz_InvalidNet_Mismatch ?hu_InvalidNet_Mismatch ?hz_InvalidNet_NoStep ?hu_InvalidNet_NoStep ?hz_InvalidNet_NotPlain ?hu_InvalidNet_NotPlain ?hz_InvalidNet_PileError ?hu_InvalidNet_PileError ?hz_InvalidNet_ValueError ?hw_InvalidMachine ?hv_InvalidMachine ?hw_InvalidProgram ?hv_InvalidProgram ?hw_InvalidText ?hv_InvalidText ?hw_Mismatch ?hv_Mismatch ?hw_NoStep ?hv_NoStep ?hw_NotPlain ?hv_NotPlain ?hw_PileError ?hv_PileError ?hl_fits ?hc_fits ?hk_fits ?hl_Net_init ?hc_Net_init ?hk_Net_init ?hi_Net_init ?hq1_Net ?hq2_Net ?hl__law_numbers ?hc__law_numbers ?hk__law_numbers ?hl__law_parts ?hc__law_parts ?hk__law_parts ?hl__law_is_number ?hc__law_is_number ?hk__law_is_number ?hl__law_are_numbers ?hc__law_are_numbers ?hk__law_are_numbers ?hl__law_once ?hc__law_once ?hk__law_once ?hl__law_kept ?hc__law_kept ?hk__law_kept ?hl__law_outside ?hc__law_outside ?hk__law_outside ?hl__law_placed ?hc__law_placed ?hk__law_placed ?hl__law_spoilt ?hc__law_spoilt ?hk__law_spoilt ?hl_law ?hc_law ?hk_law
    (case hn_PileError => k_is)
    (case hn_InvalidMachine => k_is)
    (case hn_InvalidNet => k_is)
    (case hn_Mismatch => k_is)
    (case hn_NotPlain => k_is)
    (case hn_NoStep => k_is)
    (case hn_InvalidProgram => k_is)
    (case hn_InvalidText => k_is)
    (case hn_Net => k_is)
    (case hn_fits => k_is)
    (case hn__law_numbers => k_is)
    (case hn__law_parts => k_is)
    (case hn__law_is_number => k_is)
    (case hn__law_are_numbers => k_is)
    (case hn__law_once => k_is)
    (case hn__law_kept => k_is)
    (case hn__law_outside => k_is)
    (case hn__law_placed => k_is)
    (case hn__law_spoilt => k_is)
    (case hn_law => k_is)
    (case hm_Net_init => k_is)
    (case hb_ValueError => k_is)
    (case hb_all => k_is)
    (case hb_bool => k_is)
    (case hb_int => k_is)
    (case hb_isinstance => k_is)
    (case hb_len => k_is)
    (case hb_list => k_is)
    (case hb_range => k_is)
    (case hb_set => k_is)
    (case hb_sorted => k_is)
    (case hb_tuple => k_is)
    (case h1_Net => k_is)
    (case h2_Net => k_is)
    (case h3_Net => k_is)
    (case h4_Net => k_is)
    (case hf_Net_states => k_is)
    (case hf_Net_letters => k_is)
    (case hf_Net_nodes => k_is)
    (case hf_Net_edges => k_is)
    (case hf_Net_ends => k_is)
    (case hf_Net__goals => k_is)
    (case hx1_InvalidNet => k_exc)
    (case hx2_InvalidNet => k_is)
    (case hx3_InvalidNet => k_is)
    (case hx4_InvalidNet => k_is)
    (case hx5_InvalidNet => first | rfl | k_is)
    (case hx6_InvalidNet => k_is)
    (case hx7_InvalidNet => k_is)
    (case hx8_InvalidNet => k_is)
    (case hx9_InvalidNet => k_is)
    (case hx10_InvalidNet => k_is)
    (case hx11_InvalidNet => k_is)
    (case hx12_InvalidNet => k_is)
    (case hx13_InvalidNet => k_is)
    (case hy1_Net => k_is)
    (case hy2_Net => k_is)
    (case hy3_Net => k_is)
    (case hy4_Net => k_is)
    (case hz_InvalidNet_InvalidMachine => k_is)
    (case hu_InvalidNet_InvalidMachine => first | rfl | decide)
    (case hz_InvalidNet_InvalidProgram => k_is)
    (case hu_InvalidNet_InvalidProgram => first | rfl | decide)
    (case hz_InvalidNet_InvalidText => k_is)
    (case hu_InvalidNet_InvalidText => first | rfl | decide)
    (case hz_InvalidNet_Mismatch => k_is)
    (case hu_InvalidNet_Mismatch => first | rfl | decide)
    (case hz_InvalidNet_NoStep => k_is)
    (case hu_InvalidNet_NoStep => first | rfl | decide)
    (case hz_InvalidNet_NotPlain => k_is)
    (case hu_InvalidNet_NotPlain => first | rfl | decide)
    (case hz_InvalidNet_PileError => k_is)
    (case hu_InvalidNet_PileError => first | rfl | decide)
    (case hz_InvalidNet_ValueError => k_is)
    (case hw_InvalidMachine => k_is)
    (case hv_InvalidMachine => k_is)
    (case hw_InvalidProgram => k_is)
    (case hv_InvalidProgram => k_is)
    (case hw_InvalidText => k_is)
    (case hv_InvalidText => k_is)
    (case hw_Mismatch => k_is)
    (case hv_Mismatch => k_is)
    (case hw_NoStep => k_is)
    (case hv_NoStep => k_is)
    (case hw_NotPlain => k_is)
    (case hv_NotPlain => k_is)
    (case hw_PileError => k_is)
    (case hv_PileError => k_is)
    (case hl_fits => k_is)
    (case hc_fits => k_is)
    (case hk_fits => k_is)
    (case hl_Net_init => k_is)
    (case hc_Net_init => k_is)
    (case hk_Net_init => k_is)
    (case hi_Net_init => k_is)
    (case hq1_Net => k_is)
    (case hq2_Net => k_is)
    (case hl__law_numbers => k_is)
    (case hc__law_numbers => k_is)
    (case hk__law_numbers => k_is)
    (case hl__law_parts => k_is)
    (case hc__law_parts => k_is)
    (case hk__law_parts => k_is)
    (case hl__law_is_number => k_is)
    (case hc__law_is_number => k_is)
    (case hk__law_is_number => k_is)
    (case hl__law_are_numbers => k_is)
    (case hc__law_are_numbers => k_is)
    (case hk__law_are_numbers => k_is)
    (case hl__law_once => k_is)
    (case hc__law_once => k_is)
    (case hk__law_once => k_is)
    (case hl__law_kept => k_is)
    (case hc__law_kept => k_is)
    (case hk__law_kept => k_is)
    (case hl__law_outside => k_is)
    (case hc__law_outside => k_is)
    (case hk__law_outside => k_is)
    (case hl__law_placed => k_is)
    (case hc__law_placed => k_is)
    (case hk__law_placed => k_is)
    (case hl__law_spoilt => k_is)
    (case hc__law_spoilt => k_is)
    (case hk__law_spoilt => k_is)
    (case hl_law => k_is)
    (case hc_law => k_is)
    (case hk_law => k_is)
