import PyProof.Rows.All
import Wide.All
import OpenK.AllK
import Wide.FinOn
import HandS.ForMost
import HandS.TupSets
import HandS.SetFor
import HandS.Strs
import KE.SortData
import HandS.Star
import HandS.Wide
import HandS.EndBits
import HandS.Deep
import HandS.TupAny
import HandS.IsInst
import HandS.Zip
import HandS.Codes
import PySem.Challenge.RW_rebut_k78_whole_learning
set_option Elab.async false
set_option linter.all false
set_option maxRecDepth 100000
set_option maxHeartbeats 4000000
set_option autoImplicit false
/-! ## RbMath -/
namespace Rb

/-! ### clauses, propagation -/
def rest (c T : List Int) : List Int := c.filter fun l => !decide (-l ∈ T)
def Closed (cs : List (List Int)) (T : List Int) : Prop := ∀ c ∈ cs, rest c T ≠ [] ∧ ∀ l, rest c T = [l] → l ∈ T
def Contra (cs : List (List Int)) (ns : List Int) : Prop := ∀ T : List Int, Closed cs T → (∀ l ∈ ns, l ∈ T) → False
structure Clause (n : Int) (c : List Int) : Prop where
  asc : c.Pairwise (· < ·)
  con : ∀ l ∈ c, -l ∉ c
  rng : ∀ l ∈ c, l ≠ 0 ∧ -n ≤ l ∧ l ≤ n
def Clauses (n : Int) (cs : List (List Int)) : Prop := ∀ c ∈ cs, Clause n c
structure Known (cs : List (List Int)) (ns r : List Int) : Prop where
  clo : Closed cs r
  ext : ∀ l ∈ ns, l ∈ r
  least : ∀ T : List Int, Closed cs T → (∀ l ∈ ns, l ∈ T) → ∀ l ∈ r, l ∈ T
  src : ∀ l ∈ r, l ∈ ns ∨ ∃ c ∈ cs, l ∈ c

theorem mem_rest {c T : List Int} {l : Int} : l ∈ rest c T ↔ l ∈ c ∧ -l ∉ T := by
  unfold rest
  rw [List.mem_filter]
  simp

theorem closed_congr {cs ds : List (List Int)} {T : List Int} (h : ∀ c, c ∈ ds → c ∈ cs) (k : Closed cs T) : Closed ds T := fun c hc => k c (h c hc)
theorem contra_congr {cs ds : List (List Int)} {ns ms : List Int} (h : ∀ c, c ∈ cs → c ∈ ds) (g : ∀ l, l ∈ ns → l ∈ ms) (k : Contra cs ns) : Contra ds ms :=
  fun T hT hm => k T (closed_congr h hT) fun l hl => hm l (g l hl)
theorem known_congr {cs ds : List (List Int)} {ns ms r : List Int} (h : ∀ c, c ∈ cs ↔ c ∈ ds) (g : ns.Perm ms) (k : Known cs ns r) : Known ds ms r where
  clo := closed_congr (fun c hc => (h c).mpr hc) k.clo
  ext := fun l hl => k.ext l (g.mem_iff.mpr hl)
  least := fun T hT hm => k.least T (closed_congr (fun c hc => (h c).mp hc) hT) fun l hl => hm l (g.mem_iff.mp hl)
  src := fun l hl => (k.src l hl).imp (fun q => g.mem_iff.mp q) fun ⟨c, hc, q⟩ => ⟨c, (h c).mp hc, q⟩
theorem known_perm {cs : List (List Int)} {ns r r' : List Int} (p : r'.Perm r) (k : Known cs ns r) : Known cs ns r' where
  clo := fun c hc => by
    have e : rest c r' = rest c r := by
      unfold rest
      exact List.filter_congr fun l _ => by simp [p.mem_iff]
    rw [e]
    exact ⟨(k.clo c hc).1, fun l hl => p.mem_iff.mpr ((k.clo c hc).2 l hl)⟩
  ext := fun l hl => p.mem_iff.mpr (k.ext l hl)
  least := fun T hT hm l hl => k.least T hT hm l (p.mem_iff.mp hl)
  src := fun l hl => k.src l (p.mem_iff.mp hl)
theorem known_not {cs : List (List Int)} {ns r : List Int} (k : Known cs ns r) (c : Contra cs ns) : False := c r k.clo k.ext
theorem known_same {cs : List (List Int)} {ns r s : List Int} (k : Known cs ns r) (k' : Known cs ns s) (l : Int) : l ∈ r ↔ l ∈ s :=
  ⟨fun h => k.least s k'.clo k'.ext l h, fun h => k'.least r k.clo k.ext l h⟩
theorem contra_mono {cs ds : List (List Int)} {ns : List Int} (k : Contra cs ns) : Contra (cs ++ ds) ns := contra_congr (fun c hc => List.mem_append_left _ hc) (fun _ h => h) k

theorem filter_sub {α : Type} (p q : α → Bool) : ∀ l : List α, (∀ x ∈ l, q x = true → p x = true) → (l.filter q).Sublist (l.filter p)
  | [], _ => List.Sublist.refl _
  | x :: r, h => by
    have ih := filter_sub p q r fun y hy => h y (List.mem_cons_of_mem _ hy)
    cases hq : q x with
    | true =>
      rw [List.filter_cons_of_pos hq, List.filter_cons_of_pos (h x (List.mem_cons_self ..) hq)]
      exact ih.cons_cons x
    | false =>
      rw [List.filter_cons_of_neg (by simp [hq])]
      cases hp : p x with
      | true =>
        rw [List.filter_cons_of_pos hp]
        exact ih.cons x
      | false =>
        rw [List.filter_cons_of_neg (by simp [hp])]
        exact ih
theorem rest_sub {c S T : List Int} (h : ∀ l ∈ S, l ∈ T) : (rest c T).Sublist (rest c S) := by
  unfold rest
  refine filter_sub _ _ c fun x _ hx => ?_
  simp only [Bool.not_eq_true', decide_eq_false_iff_not] at hx ⊢
  exact fun q => hx (h _ q)
/-- a closed set above S: what S forces is in it -/
theorem closed_unit {cs : List (List Int)} {c S T : List Int} (k : Closed cs T) (hc : c ∈ cs) (h : ∀ l ∈ S, l ∈ T) {l : Int} (e : rest c S = [l]) : l ∈ T := by
  have s := rest_sub (c := c) h
  rw [e] at s
  obtain ⟨k1, k2⟩ := k c hc
  rcases List.sublist_cons_iff.mp s with s | ⟨r, er, s⟩
  · exact absurd (List.sublist_nil.mp s) k1
  · have e2 : r = [] := List.sublist_nil.mp s
    subst e2
    exact k2 l er
theorem closed_no {cs : List (List Int)} {c S T : List Int} (k : Closed cs T) (hc : c ∈ cs) (h : ∀ l ∈ S, l ∈ T) (e : rest c S = []) : False := by
  have s := rest_sub (c := c) h
  rw [e] at s
  exact (k c hc).1 (List.sublist_nil.mp s)

/-! ### models -/
structure Total (n : Nat) (T : List Int) : Prop where
  asc : T.Pairwise (· < ·)
  all : ∀ v : Int, 1 ≤ v → v ≤ n → v ∈ T ∨ -v ∈ T
  con : ∀ l ∈ T, -l ∉ T
  rng : ∀ l ∈ T, l ≠ 0 ∧ -(n : Int) ≤ l ∧ l ≤ n
def Meets (T c : List Int) : Prop := ∃ l ∈ c, l ∈ T
def Model (n : Nat) (cs : List (List Int)) (T : List Int) : Prop := Total n T ∧ ∀ c ∈ cs, Meets T c
theorem total_lit {n : Nat} {T : List Int} (t : Total n T) {l : Int} (h : l ≠ 0 ∧ -(n : Int) ≤ l ∧ l ≤ n) : l ∈ T ∨ -l ∈ T := by
  by_cases hp : 1 ≤ l
  · exact t.all l hp h.2.2
  · have := t.all (-l) (by omega) (by omega)
    rw [Int.neg_neg] at this
    exact this.symm
theorem model_closed {n : Nat} {cs : List (List Int)} {T : List Int} (m : Model n cs T) : Closed cs T := fun c hc => by
  obtain ⟨l, h1, h2⟩ := m.2 c hc
  have hl : l ∈ rest c T := mem_rest.mpr ⟨h1, m.1.con l h2⟩
  refine ⟨List.ne_nil_of_mem hl, fun k e => ?_⟩
  rw [e] at hl
  rw [← List.mem_singleton.mp hl]
  exact h2
theorem contra_model {n : Nat} {cs : List (List Int)} {ns T : List Int} (k : Contra cs ns) (hr : ∀ l ∈ ns, l ≠ 0 ∧ -(n : Int) ≤ l ∧ l ≤ n) (m : Model n cs T) : ∃ l ∈ ns, -l ∈ T := by
  apply Classical.byContradiction
  intro h
  refine k T (model_closed m) fun l hl => ?_
  rcases total_lit m.1 (hr l hl) with q | q
  · exact q
  · exact absurd ⟨l, hl, q⟩ h
theorem contra_none {n : Nat} {cs : List (List Int)} {T : List Int} (k : Contra cs []) (m : Model n cs T) : False := k T (model_closed m) fun l hl => by cases hl

theorem Clause.nod {n : Int} {c : List Int} (k : Clause n c) : c.Nodup := k.asc.imp fun h e => absurd h (by rw [e]; exact Int.lt_irrefl _)

/-! ### the learner -/
def negs (c : List Int) : List Int := c.map fun l => -l
theorem mem_negs {c : List Int} {l : Int} : l ∈ negs c ↔ -l ∈ c := by
  unfold negs
  rw [List.mem_map]
  constructor
  · rintro ⟨a, h, rfl⟩
    rw [Int.neg_neg]
    exact h
  · exact fun h => ⟨-l, h, Int.neg_neg l⟩
structure Lits (n : Int) (A : List Int) : Prop where
  nod : A.Nodup
  con : ∀ l ∈ A, -l ∉ A
  rng : ∀ l ∈ A, l ≠ 0 ∧ -n ≤ l ∧ l ≤ n
theorem Lits.sub {n : Int} {A B : List Int} (k : Lits n A) (s : B.Sublist A) : Lits n B :=
  ⟨k.nod.sublist s, fun l hl q => k.con l (s.subset hl) (s.subset q), fun l hl => k.rng l (s.subset hl)⟩
theorem Lits.nil {n : Int} : Lits n [] := ⟨List.Pairwise.nil, fun _ h => (by cases h), fun _ h => (by cases h)⟩
theorem Lits.perm {n : Int} {A B : List Int} (k : Lits n A) (p : B.Perm A) : Lits n B :=
  ⟨p.nodup_iff.mpr k.nod, fun l hl q => k.con l (p.mem_iff.mp hl) (p.mem_iff.mp q), fun l hl => k.rng l (p.mem_iff.mp hl)⟩
theorem Lits.snoc {n : Int} {A : List Int} {l : Int} (k : Lits n A) (h1 : l ∉ A) (h2 : -l ∉ A) (hr : l ≠ 0 ∧ -n ≤ l ∧ l ≤ n) : Lits n (A ++ [l]) where
  nod := by
    rw [List.nodup_append]
    exact ⟨k.nod, by simp, fun a ha b hb e => h1 (by rw [← List.mem_singleton.mp hb, ← e]; exact ha)⟩
  con := fun a ha q => by
    rcases List.mem_append.mp ha with ha | ha
    · rcases List.mem_append.mp q with q | q
      · exact k.con a ha q
      · have e := List.mem_singleton.mp q
        exact h2 (by rw [← e, Int.neg_neg]; exact ha)
    · have e := List.mem_singleton.mp ha
      subst e
      rcases List.mem_append.mp q with q | q
      · exact h2 q
      · have e := List.mem_singleton.mp q
        have := hr.1
        omega
  rng := fun a ha => by
    rcases List.mem_append.mp ha with ha | ha
    · exact k.rng a ha
    · rw [List.mem_singleton.mp ha]
      exact hr
theorem pairwise_lt_of_le {l : List Int} (h : l.Pairwise (· ≤ ·)) (hn : l.Nodup) : l.Pairwise (· < ·) := by
  have := List.Pairwise.and h hn
  exact this.imp fun q => by
    obtain ⟨a, b⟩ := q
    omega
/-- the clause of some literals' negations -/
theorem negs_clause {n : Int} {A c : List Int} (k : Lits n A) (p : c.Perm (negs A)) (s : c.Pairwise (· ≤ ·)) : Clause n c where
  asc := pairwise_lt_of_le s (p.nodup_iff.mpr (by
    unfold negs
    exact (List.pairwise_map.mpr (k.nod.imp fun h e => h (by omega)))))
  con := fun l hl q => by
    have h1 := mem_negs.mp (p.mem_iff.mp hl)
    have h2 := mem_negs.mp (p.mem_iff.mp q)
    exact k.con _ h1 h2
  rng := fun l hl => by
    have h1 := k.rng _ (mem_negs.mp (p.mem_iff.mp hl))
    omega
structure Learnt (n : Int) (cs L : List (List Int)) : Prop where
  ok : Clauses n L
  log : ∀ (k : Nat) (c : List Int), L[k]? = some c → Contra (cs ++ L.take k) (negs c)
theorem Learnt.nil {n : Int} {cs : List (List Int)} : Learnt n cs [] := ⟨fun _ h => (by cases h), fun k c h => (by simp at h)⟩
theorem Learnt.snoc {n : Int} {cs L : List (List Int)} {c : List Int} (k : Learnt n cs L) (hc : Clause n c) (h : Contra (cs ++ L) (negs c)) : Learnt n cs (L ++ [c]) where
  ok := fun d hd => by
    rcases List.mem_append.mp hd with hd | hd
    · exact k.ok d hd
    · rw [List.mem_singleton.mp hd]
      exact hc
  log := fun i d hi => by
    by_cases hl : i < L.length
    · rw [List.getElem?_append_left hl] at hi
      rw [List.take_append_of_le_length (Nat.le_of_lt hl)]
      exact k.log i d hi
    · rw [List.getElem?_append_right (Nat.le_of_not_lt hl)] at hi
      have e : i - L.length = 0 := by
        cases q : i - L.length with
        | zero => rfl
        | succ j => rw [q] at hi; simp at hi
      have e2 : i = L.length := by omega
      rw [e] at hi
      have e3 : c = d := Option.some.inj hi
      subst e3
      rw [e2, List.take_left]
      exact h
/-- what was learnt holds in every model -/
theorem Learnt.model {n : Nat} {cs L : List (List Int)} (k : Learnt n cs L) {T : List Int} (m : Model n cs T) : Model n (cs ++ L) T := by
  have step : ∀ i, i ≤ L.length → ∀ c ∈ L.take i, Meets T c := by
    intro i
    induction i with
    | zero => intro _ c hc; simp at hc
    | succ i ih =>
      intro hi c hc
      have hlt : i < L.length := hi
      rw [List.take_succ_eq_append_getElem hlt] at hc
      rcases List.mem_append.mp hc with hc | hc
      · exact ih (Nat.le_of_lt hlt) c hc
      · have e := List.mem_singleton.mp hc
        have h2 := k.log i L[i] (List.getElem?_eq_getElem hlt)
        have ok := k.ok L[i] (List.getElem_mem hlt)
        have hm : Model n (cs ++ L.take i) T := ⟨m.1, fun d hd => by
          rcases List.mem_append.mp hd with hd | hd
          · exact m.2 d hd
          · exact ih (Nat.le_of_lt hlt) d hd⟩
        obtain ⟨l, h3, h4⟩ := contra_model h2 (fun l hl => by have := ok.rng _ (mem_negs.mp hl); omega) hm
        rw [e]
        exact ⟨-l, mem_negs.mp h3, h4⟩
  refine ⟨m.1, fun c hc => ?_⟩
  rcases List.mem_append.mp hc with hc | hc
  · exact m.2 c hc
  · have := step L.length (Nat.le_refl _) c (by rw [List.take_length]; exact hc)
    exact this
theorem Learnt.none {n : Nat} {cs L : List (List Int)} (k : Learnt n cs L) (h : Contra (cs ++ L) []) {T : List Int} (m : Model n cs T) : False := contra_none h (k.model m)
/-- a learnt clause is new -/
theorem learnt_new {n : Int} {cs : List (List Int)} {A r K c : List Int} {l : Int} (kn : Known cs A r) (hl : l ∉ r) (hnl : -l ∉ r) (hk : ∀ k ∈ K, k ∈ A ∨ k = l) (hc : Contra cs K) (cl : Clause n c) (e : ∀ x, x ∈ c ↔ -x ∈ K) : c ∉ cs := fun hm => by
  have hlK : l ∈ K := Classical.byContradiction fun q => known_not kn (contra_congr (fun _ h => h) (fun k h => by
    rcases hk k h with z | z
    · exact z
    · subst z; exact absurd h q) hc)
  have hr : ∀ x, x ∈ rest c r ↔ x = -l := fun x => by
    rw [mem_rest, e]
    constructor
    · rintro ⟨h1, h2⟩
      rcases hk _ h1 with z | z
      · exact absurd (kn.ext _ z) h2
      · omega
    · rintro rfl
      rw [Int.neg_neg]
      exact ⟨hlK, hl⟩
  have nd : (rest c r).Nodup := cl.nod.sublist List.filter_sublist
  have e2 : rest c r = [-l] := by
    cases q : rest c r with
    | nil =>
      have := (hr (-l)).mpr rfl
      rw [q] at this
      cases this
    | cons a t =>
      rw [q] at nd hr
      have ha := (hr a).mp (List.mem_cons_self ..)
      cases t with
      | nil => rw [ha]
      | cons b u =>
        have hb := (hr b).mp (List.mem_cons_of_mem _ (List.mem_cons_self ..))
        rw [ha, hb] at nd
        simp at nd
  exact hnl ((kn.clo c hm).2 _ e2)

/-- total and closed: a model -/
theorem known_model {n : Nat} {cs : List (List Int)} {A r : List Int} (kn : Known cs A r) (hr : Lits n r) (hcs : Clauses n cs) (hs : r.Pairwise (· ≤ ·)) (hf : ∀ v : Int, 1 ≤ v → v ≤ n → v ∈ r ∨ -v ∈ r) : Model n cs r := by
  have t : Total n r := ⟨pairwise_lt_of_le hs hr.nod, hf, hr.con, hr.rng⟩
  refine ⟨t, fun c hc => ?_⟩
  obtain ⟨l, hl⟩ := List.exists_mem_of_ne_nil _ (kn.clo c hc).1
  obtain ⟨h1, h2⟩ := mem_rest.mp hl
  rcases total_lit t ((hcs c hc).rng l h1) with q | q
  · exact ⟨l, h1, q⟩
  · exact absurd q h2
end Rb
/-! ## RbMath2 -/
namespace Rb
/-! ### all assignments -/
def asg : Nat → List (List Int)
  | 0 => [[]]
  | v + 1 => (asg v).map (fun c => c ++ [((v + 1 : Nat) : Int)]) ++ (asg v).map fun c => c ++ [-((v + 1 : Nat) : Int)]
def Covers (n : Nat) (T : List Int) : Prop := ∀ v : Int, 1 ≤ v → v ≤ n → v ∈ T ∨ -v ∈ T
theorem asg_snoc {n : Nat} {U : List Int} {x : Int} (h : Lits (n : Nat) U) (c : Covers n U) (hx : x = ((n + 1 : Nat) : Int) ∨ x = -((n + 1 : Nat) : Int)) : Lits ((n + 1 : Nat) : Int) (U ++ [x]) ∧ Covers (n + 1) (U ++ [x]) := by
  refine ⟨Lits.snoc ⟨h.nod, h.con, fun l hl => ?_⟩ (fun q => ?_) (fun q => ?_) ?_, fun v h1 h2 => ?_⟩
  · have := h.rng l hl
    omega
  · have := h.rng x q
    omega
  · have := h.rng _ q
    omega
  · omega
  · by_cases hv : v ≤ (n : Int)
    · exact (c v h1 hv).imp (fun q => List.mem_append_left _ q) fun q => List.mem_append_left _ q
    · rcases hx with rfl | rfl
      · exact .inl (List.mem_append_right _ (List.mem_singleton.mpr (by omega)))
      · exact .inr (List.mem_append_right _ (List.mem_singleton.mpr (by omega)))
theorem asg_ok : ∀ (n : Nat) (U : List Int), U ∈ asg n → Lits (n : Int) U ∧ Covers n U ∧ U.length = n
  | 0, U, h => by
    have e : U = [] := by simpa [asg] using h
    subst e
    exact ⟨Lits.nil, fun v h1 h2 => by omega, rfl⟩
  | n + 1, U, h => by
    rcases List.mem_append.mp h with h | h
    · obtain ⟨c, hc, rfl⟩ := List.mem_map.mp h
      obtain ⟨a, b, e⟩ := asg_ok n c hc
      obtain ⟨p, q⟩ := asg_snoc a b (.inl rfl)
      exact ⟨p, q, by rw [List.length_append, e]; rfl⟩
    · obtain ⟨c, hc, rfl⟩ := List.mem_map.mp h
      obtain ⟨a, b, e⟩ := asg_ok n c hc
      obtain ⟨p, q⟩ := asg_snoc a b (.inr rfl)
      exact ⟨p, q, by rw [List.length_append, e]; rfl⟩
theorem asg_all : ∀ (n : Nat) (T : List Int), Lits (n : Int) T → Covers n T → ∃ U ∈ asg n, U.Perm T
  | 0, T, h, _ => by
    refine ⟨[], by simp [asg], ?_⟩
    cases T with
    | nil => exact List.Perm.refl _
    | cons a t =>
      have := h.rng a (List.mem_cons_self ..)
      omega
  | n + 1, T, h, c => by
    have step : ∀ x : Int, x ∈ T → (x = ((n + 1 : Nat) : Int) ∨ x = -((n + 1 : Nat) : Int)) → ∃ U ∈ asg n, (U ++ [x]).Perm T := by
      intro x hx ex
      have hne : ∀ l, l ∈ T.erase x → l ≠ x ∧ l ≠ -x := fun l hl => by
        have hl' := (List.Nodup.mem_erase_iff h.nod).mp hl
        exact ⟨hl'.1, fun q => h.con x hx (by rw [← q]; exact hl'.2)⟩
      obtain ⟨U, hU, p⟩ := asg_all n (T.erase x) ⟨h.nod.sublist List.erase_sublist, fun l hl q => h.con l (List.mem_of_mem_erase hl) (List.mem_of_mem_erase q), fun l hl => by
        have h1 := h.rng l (List.mem_of_mem_erase hl)
        have h2 := hne l hl
        omega⟩ fun v h1 h2 => by
          have e := c v h1 (by omega)
          refine e.imp (fun q => ?_) fun q => ?_
          · exact (List.Nodup.mem_erase_iff h.nod).mpr ⟨by omega, q⟩
          · exact (List.Nodup.mem_erase_iff h.nod).mpr ⟨by omega, q⟩
      refine ⟨U, hU, ?_⟩
      exact (List.perm_append_comm.trans ((List.Perm.cons x p))).trans (List.perm_cons_erase hx).symm
    rcases c ((n + 1 : Nat) : Int) (by omega) (Int.le_refl _) with q | q
    · obtain ⟨U, hU, p⟩ := step _ q (.inl rfl)
      exact ⟨_, List.mem_append_left _ (List.mem_map.mpr ⟨U, hU, rfl⟩), p⟩
    · obtain ⟨U, hU, p⟩ := step _ q (.inr rfl)
      exact ⟨_, List.mem_append_right _ (List.mem_map.mpr ⟨U, hU, rfl⟩), p⟩
theorem perm_eq {a b : List Int} (p : a.Perm b) (ha : a.Pairwise (· ≤ ·)) (hb : b.Pairwise (· ≤ ·)) : a = b :=
  p.eq_of_pairwise (fun x y _ _ h1 h2 => by omega) ha hb
theorem Total.le {n : Nat} {T : List Int} (t : Total n T) : T.Pairwise (· ≤ ·) := t.asc.imp fun h => Int.le_of_lt h
theorem Total.lits {n : Nat} {T : List Int} (t : Total n T) : Lits (n : Int) T := ⟨t.asc.imp fun h e => absurd h (by rw [e]; exact Int.lt_irrefl _), t.con, t.rng⟩
theorem asg_total {n : Nat} {U Z : List Int} (h : U ∈ asg n) (p : Z.Perm U) (s : Z.Pairwise (· ≤ ·)) : Total n Z := by
  obtain ⟨a, b, _⟩ := asg_ok n U h
  have a' := a.perm p
  exact ⟨pairwise_lt_of_le s a'.nod, fun v h1 h2 => (b v h1 h2).imp (fun q => p.mem_iff.mpr q) fun q => p.mem_iff.mpr q, a'.con, a'.rng⟩
theorem asg_has {n : Nat} {zs : List (List Int)} (h1 : ∀ Z ∈ zs, Total n Z) (h2 : ∀ U ∈ asg n, ∃ Z ∈ zs, Z.Perm U) {T : List Int} (t : Total n T) : T ∈ zs := by
  obtain ⟨U, hU, p⟩ := asg_all n T t.lits t.all
  obtain ⟨Z, hZ, q⟩ := h2 U hU
  rw [← perm_eq (q.trans p) (h1 Z hZ).le t.le]
  exact hZ
theorem asg_len : ∀ n : Nat, (asg n).length = 2 ^ n
  | 0 => rfl
  | n + 1 => by
    show ((asg n).map _ ++ (asg n).map _).length = _
    rw [List.length_append, List.length_map, List.length_map, asg_len n, Nat.pow_succ]
    omega
theorem Total.len {n : Nat} {T : List Int} (t : Total n T) : T.length = n := by
  obtain ⟨U, hU, p⟩ := asg_all n T t.lits t.all
  rw [← p.length_eq]
  exact (asg_ok n U hU).2.2

/-! ### what grows -/
/-- how many of l are not yet in L -/
def left {α : Type} [DecidableEq α] (l L : List α) : Nat := (l.filter fun x => !decide (x ∈ L)).length
theorem left_le {α : Type} [DecidableEq α] (L M : List α) (h : ∀ x ∈ L, x ∈ M) : ∀ l : List α, left l M ≤ left l L := fun l => by
  unfold left
  exact (filter_sub _ _ l fun x _ hx => by
    simp only [Bool.not_eq_true', decide_eq_false_iff_not] at hx ⊢
    exact fun q => hx (h x q)).length_le
theorem left_drop {α : Type} [DecidableEq α] {L : List α} {c : α} (hn : c ∉ L) : ∀ l : List α, c ∈ l → left l (L ++ [c]) + 1 ≤ left l L
  | [], h => by cases h
  | x :: r, h => by
    have mono := left_le L (L ++ [c]) (fun y hy => List.mem_append_left _ hy) r
    have ih := left_drop hn r
    unfold left at mono ih ⊢
    by_cases e : x = c
    · subst e
      rw [List.filter_cons_of_neg (by simp), List.filter_cons_of_pos (by simp [hn]), List.length_cons]
      omega
    · have ih := ih ((List.mem_cons.mp h).resolve_left fun q => e q.symm)
      by_cases hx : x ∈ L
      · rw [List.filter_cons_of_neg (by simp [hx]), List.filter_cons_of_neg (by simp [hx])]
        exact ih
      · rw [List.filter_cons_of_pos (by simp [hx, e]), List.filter_cons_of_pos (by simp [hx]), List.length_cons, List.length_cons]
        omega
/-- the ascending lists of 1 to n -/
def subs : Nat → List (List Int)
  | 0 => [[]]
  | v + 1 => subs v ++ (subs v).map fun c => c ++ [((v + 1 : Nat) : Int)]
theorem subs_len : ∀ n : Nat, (subs n).length = 2 ^ n
  | 0 => rfl
  | n + 1 => by
    show (subs n ++ (subs n).map _).length = _
    rw [List.length_append, List.length_map, subs_len n, Nat.pow_succ]
    omega
theorem subs_all : ∀ (n : Nat) (c : List Int), c.Pairwise (· < ·) → (∀ l ∈ c, 1 ≤ l ∧ l ≤ n) → c ∈ subs n
  | 0, c, _, h => by
    cases c with
    | nil => simp [subs]
    | cons a t =>
      have := h a (List.mem_cons_self ..)
      omega
  | n + 1, c, p, h => by
    by_cases hm : ((n + 1 : Nat) : Int) ∈ c
    · obtain ⟨s, t, rfl⟩ := List.append_of_mem hm
      have ht : t = [] := by
        cases t with
        | nil => rfl
        | cons b u =>
          have h1 := h b (List.mem_append_right _ (List.mem_cons_of_mem _ (List.mem_cons_self ..)))
          have h2 := (List.pairwise_append.mp p).2.1
          have h3 := List.rel_of_pairwise_cons h2 (List.mem_cons_self ..)
          omega
      subst ht
      have ps := List.pairwise_append.mp p
      refine List.mem_append_right _ (List.mem_map.mpr ⟨s, subs_all n s ps.1 fun l hl => ?_, rfl⟩)
      have h1 := h l (List.mem_append_left _ hl)
      have h2 := ps.2.2 l hl _ (List.mem_cons_self ..)
      omega
    · refine List.mem_append_left _ (subs_all n c p fun l hl => ?_)
      have h1 := h l hl
      have : l ≠ ((n + 1 : Nat) : Int) := fun e => hm (by rw [← e]; exact hl)
      omega
def room (n : Nat) (L : List (List Int)) : Nat := left (subs n) L
theorem room_nil (n : Nat) : room n [] = 2 ^ n := by
  unfold room left
  rw [List.filter_eq_self.mpr (fun x _ => by simp), subs_len]
theorem room_snoc {n : Nat} {L : List (List Int)} {c : List Int} (hn : c ∉ L) (p : c.Pairwise (· < ·)) (h : ∀ l ∈ c, 1 ≤ l ∧ l ≤ n) : room n (L ++ [c]) + 1 ≤ room n L := left_drop hn _ (subs_all n c p h)
/-- a list of n different variables' literals is short -/
theorem asc_len : ∀ (c : List Int) (a b : Int), c.Pairwise (· < ·) → (∀ l ∈ c, a ≤ l ∧ l ≤ b) → (c.length : Int) ≤ max 0 (b - a + 1)
  | [], _, _, _, _ => by simp; omega
  | x :: r, a, b, p, h => by
    have ih := asc_len r (x + 1) b (List.Pairwise.of_cons p) fun l hl => ⟨by have := List.rel_of_pairwise_cons p hl; omega, (h l (List.mem_cons_of_mem _ hl)).2⟩
    have := h x (List.mem_cons_self ..)
    rw [List.length_cons]
    omega
theorem Clause.len {n : Nat} {c : List Int} (k : Clause n c) : c.length ≤ 2 * n + 1 := by
  have := asc_len c (-n) n k.asc fun l hl => (k.rng l hl).2
  omega
/-- literals of different variables: at most n -/
theorem lits_len : ∀ (n : Nat) (A : List Int), Lits (n : Int) A → A.length ≤ n
  | 0, A, h => by
    cases A with
    | nil => exact Nat.le_refl _
    | cons a t =>
      have := h.rng a (List.mem_cons_self ..)
      omega
  | n + 1, A, h => by
    have step : ∀ x : Int, x ∈ A → (x = ((n + 1 : Nat) : Int) ∨ x = -((n + 1 : Nat) : Int)) → A.length ≤ n + 1 := by
      intro x hx ex
      have ih := lits_len n (A.erase x) ⟨h.nod.sublist List.erase_sublist, fun l hl q => h.con l (List.mem_of_mem_erase hl) (List.mem_of_mem_erase q), fun l hl => by
        have h1 := h.rng l (List.mem_of_mem_erase hl)
        have hl' := (List.Nodup.mem_erase_iff h.nod).mp hl
        have h3 : l ≠ -x := fun q => h.con x hx (by rw [← q]; exact hl'.2)
        have h4 := hl'.1
        omega⟩
      rw [List.length_erase_of_mem hx] at ih
      omega
    by_cases h1 : ((n + 1 : Nat) : Int) ∈ A
    · exact step _ h1 (.inl rfl)
    · by_cases h2 : -((n + 1 : Nat) : Int) ∈ A
      · exact step _ h2 (.inr rfl)
      · have := lits_len n A ⟨h.nod, h.con, fun l hl => by
          have h3 := h.rng l hl
          have h4 : l ≠ ((n + 1 : Nat) : Int) := fun e => h1 (by rw [← e]; exact hl)
          have h5 : l ≠ -((n + 1 : Nat) : Int) := fun e => h2 (by rw [← e]; exact hl)
          omega⟩
        omega
theorem Clause.lits {n : Int} {c : List Int} (k : Clause n c) : Lits n c := ⟨k.nod, k.con, k.rng⟩
end Rb
/-! ## RbMath3 -/
namespace Rb
/-- what is found on the way -/
structure Fd (n : Int) (cs : List (List Int)) (ns T : List Int) : Prop where
  lits : Lits n T
  ext : ∀ l ∈ ns, l ∈ T
  least : ∀ S : List Int, Closed cs S → (∀ l ∈ ns, l ∈ S) → ∀ l ∈ T, l ∈ S
  src : ∀ l ∈ T, l ∈ ns ∨ ∃ c ∈ cs, l ∈ c
theorem Fd.start {n : Int} {cs : List (List Int)} {ns : List Int} (h : Lits n ns) : Fd n cs ns ns := ⟨h, fun _ q => q, fun _ _ q => q, fun _ q => .inl q⟩
theorem Fd.step {n : Int} {cs : List (List Int)} {ns T c : List Int} {l : Int} (k : Fd n cs ns T) (hc : c ∈ cs) (ok : Clause n c) (e : rest c T = [l]) (hl : l ∉ T) : Fd n cs ns (T ++ [l]) where
  lits := by
    have h := mem_rest.mp (show l ∈ rest c T by rw [e]; exact List.mem_singleton.mpr rfl)
    exact k.lits.snoc hl h.2 (ok.rng l h.1)
  ext := fun x hx => List.mem_append_left _ (k.ext x hx)
  least := fun S hS hn x hx => by
    rcases List.mem_append.mp hx with hx | hx
    · exact k.least S hS hn x hx
    · rw [List.mem_singleton.mp hx]
      exact closed_unit hS hc (k.least S hS hn) e
  src := fun x hx => by
    rcases List.mem_append.mp hx with hx | hx
    · exact k.src x hx
    · have h := mem_rest.mp (show l ∈ rest c T by rw [e]; exact List.mem_singleton.mpr rfl)
      rw [List.mem_singleton.mp hx]
      exact .inr ⟨c, hc, h.1⟩
theorem Fd.contra {n : Int} {cs : List (List Int)} {ns T c : List Int} (k : Fd n cs ns T) (hc : c ∈ cs) (e : rest c T = []) : Contra cs ns := fun S hS hn => closed_no hS hc (k.least S hS hn) e
theorem Fd.known {n : Int} {cs : List (List Int)} {ns T : List Int} (k : Fd n cs ns T) (h : Closed cs T) : Known cs ns T := ⟨h, k.ext, k.least, k.src⟩
theorem Fd.len {n : Nat} {cs : List (List Int)} {ns T : List Int} (k : Fd n cs ns T) : T.length ≤ n := lits_len n T k.lits
theorem rest_snoc (c T : List Int) (z : Int) : rest (c ++ [z]) T = if -z ∈ T then rest c T else rest c T ++ [z] := by
  unfold rest
  rw [List.filter_append]
  by_cases h : -z ∈ T
  · rw [if_pos h, List.filter_cons_of_neg (by simp [h]), List.filter_nil, List.append_nil]
  · rw [if_neg h, List.filter_cons_of_pos (by simp [h]), List.filter_nil]
theorem rest_len (c T : List Int) : (rest c T).length ≤ c.length := List.length_filter_le _ _
end Rb
/-! ## RbMath4 -/
namespace Rb
structure LInv (n : Int) (cs L : List (List Int)) (A : List Int) : Prop where
  lits : Lits n A
  lea : Learnt n cs L
  emp : Contra (cs ++ L) A → A = []
def Step (n : Int) (cs L : List (List Int)) (A : List Int) (x : Int) (L' : List (List Int)) (A' : List Int) : Prop :=
  (L' = L ∧ A' = A ∧ (Contra (cs ++ L) [] ∨ ∃ r, Known (cs ++ L) A r ∧ (x ∈ r ∨ -x ∈ r))) ∨
  (L' = L ∧ A' = A ++ [x] ∧ ¬ Contra (cs ++ L) (A ++ [x]) ∧ ∃ r, Known (cs ++ L) A r ∧ x ∉ r ∧ -x ∉ r) ∨
  ∃ (c : List Int) (m : Nat) (r : List Int), L' = L ++ [c] ∧ A' = (A ++ [x]).take m ∧ Known (cs ++ L) A r ∧ x ∉ r ∧ -x ∉ r ∧ Clause n c ∧ Contra (cs ++ L) (negs c) ∧ c ∉ cs ++ L ∧ (∀ y ∈ c, -y ∈ A ++ [x]) ∧ (Contra (cs ++ L') A' → A' = [])
theorem lits_known {n : Int} {cs : List (List Int)} {A r : List Int} {x : Int} (h : Lits n A) (k : Known cs A r) (h1 : x ∉ r) (h2 : -x ∉ r) (hr : x ≠ 0 ∧ -n ≤ x ∧ x ≤ n) : Lits n (A ++ [x]) :=
  h.snoc (fun q => h1 (k.ext _ q)) (fun q => h2 (k.ext _ q)) hr
theorem Step.inv {n : Int} {cs L L' : List (List Int)} {A A' : List Int} {x : Int} (h : LInv n cs L A) (hx : x ≠ 0 ∧ -n ≤ x ∧ x ≤ n) (s : Step n cs L A x L' A') : LInv n cs L' A' := by
  rcases s with ⟨rfl, rfl, _⟩ | ⟨rfl, rfl, hc, r, hk, h1, h2⟩ | ⟨c, m, r, rfl, rfl, hk, h1, h2, hc, hcc, _, _, he⟩
  · exact h
  · exact ⟨lits_known h.lits hk h1 h2 hx, h.lea, fun q => absurd q hc⟩
  · exact ⟨(lits_known h.lits hk h1 h2 hx).sub (List.take_sublist _ _), h.lea.snoc hc hcc, he⟩
theorem Step.len {n : Int} {cs L L' : List (List Int)} {A A' : List Int} {x : Int} (s : Step n cs L A x L' A') : L'.length ≤ L.length + 1 := by
  rcases s with ⟨rfl, rfl, _⟩ | ⟨rfl, rfl, _⟩ | ⟨c, m, r, rfl, _⟩
  · omega
  · omega
  · rw [List.length_append, List.length_singleton]
    omega
/-- the conflict's clause -/
theorem step_conflict {n : Int} {cs L : List (List Int)} {A B c r A' : List Int} {x : Int} {m : Nat} (hA : Lits n (A ++ [x])) (hk : Known (cs ++ L) A r) (h1 : x ∉ r) (h2 : -x ∉ r) (sub : B.Sublist (A ++ [x])) (hB : Contra (cs ++ L) B)
    (pc : c.Perm (negs B)) (hs : c.Pairwise (· ≤ ·)) (eA : A' = (A ++ [x]).take m) (he : Contra (cs ++ (L ++ [c])) A' → A' = []) : Step n cs L A x (L ++ [c]) A' := by
  have cl : Clause n c := negs_clause (hA.sub sub) pc hs
  have e : ∀ y, y ∈ c ↔ -y ∈ B := fun y => pc.mem_iff.trans mem_negs
  refine .inr (.inr ⟨c, m, r, rfl, eA, hk, h1, h2, cl, contra_congr (fun _ q => q) (fun l hl => ?_) hB, ?_, fun y hy => sub.subset ((e y).mp hy), he⟩)
  · refine mem_negs.mpr ((e _).mpr ?_)
    rw [Int.neg_neg]
    exact hl
  · refine learnt_new hk h1 h2 (fun k hk' => ?_) hB cl e
    rcases List.mem_append.mp (sub.subset hk') with q | q
    · exact .inl q
    · exact .inr (List.mem_singleton.mp q)
end Rb
/-! ## RbSort -/
namespace Rb
open PySem PySem.W PySem.Calls PyProof.Rows L2

/-! ### tuples of ints, some of them empty: they can be sorted -/
def IntTup (h : Heap) (v : Value) (c : List Int) : Prop := ∃ b o xs n, v = .ref b ∧ h.get? b = some o ∧ o.cls = .type "tuple" ∧ o.data = .seq xs n ∧ IntsAre xs.toList c
def tupD (c : List Int) : PyData := .tuple (c.map .int)
theorem reads_ints {h : Heap} : ∀ {vs : List Value} {c : List Int}, IntsAre vs c → ∃ as, ReadsAll h vs (c.map .int) as
  | _, _, .nil => ⟨[], .nil⟩
  | _, _, .cons n t r => by
    obtain ⟨as, q⟩ := reads_ints (h := h) r
    exact ⟨_, .cons (.int n t) q⟩
theorem IntTup.reads {h : Heap} {v : Value} {c : List Int} (x : IntTup h v c) : ∃ as, Reads h v (tupD c) as := by
  obtain ⟨b, o, xs, n, rfl, h1, h2, h3, h4⟩ := x
  obtain ⟨as, q⟩ := reads_ints (h := h) h4
  exact ⟨as, .tuple h1 h2 h3 q⟩
theorem IntTup.keep {h h' : Heap} {v : Value} {c : List Int} (x : IntTup h v c) (k : ∀ b o, h.get? b = some o → h'.get? b = some o) : IntTup h' v c := by
  obtain ⟨b, o, xs, n, rfl, h1, h2, h3, h4⟩ := x
  exact ⟨b, o, xs, n, rfl, k _ _ h1, h2, h3, h4⟩
theorem alike_tups (cs : List (List Int)) : AllAlike (cs.map tupD) := AllAlike.of fun a b => by
  show alike (.tuple _) (.tuple _) = true
  rw [alike]
  exact alike_ints a b
theorem depth_tup (c : List Int) : (tupD c).depth = 1 := by
  show PyData.depth (.tuple (c.map .int)) = 1
  rw [PyData.depth, depth_ints]
section
variable {prog : Program} {w : World} {A : Around} {E : Value → Shared → Prop} {s : Shared}
theorem call_tuple_lt {Q : Value → Shared → Prop} {l b : Addr} {items items2 : Array Value} {e r : Nat → Bool} (hl : s.heap.IsTuple l items) (hb : s.heap.IsTuple b items2)
    (he : ∀ j (h1 : j < items.size) (h2 : j < items2.size), SeqAt.EqAt A.in1 s items[j] items2[j] (e j)) (hr : ∀ j (h1 : j < items.size) (h2 : j < items2.size), e j = false → SeqAt.RcLt A.in1 s items[j] items2[j] (r j))
    (h : Q (.bool (SeqAt.firstLt e r (decide (items.size < items2.size)) (List.range (min items.size items2.size)))) s) : wpAny (model prog w) A (call (.builtin "tuple.__lt__") [.ref l, .ref b]) Q E s := by
  obtain ⟨⟨cls, dd, data, sl⟩, ho, hc, n, hd⟩ := id hl
  obtain ⟨⟨cls2, dd2, data2, sl2⟩, ho2, hc2, n2, hd2⟩ := id hb
  simp only at hc hd hc2 hd2
  subst hc hd hc2 hd2
  exact call_meets F.slot_tuple_lt ⟨_, ho, rfl⟩ F.entry_tuple_lt (F.args_tuple_lt_2 _ _) (SeqAt.tuple_ltAt l b items items2 n n2 dd dd2 sl sl2 e r) ⟨ho, ho2, he, hr, h⟩
theorem oneLt_tups {xs ys : List PyData} {a b : Value} {as bs : List Addr} {Q : Bool → Shared → Prop} (ra : Reads s.heap a (.tuple xs) as) (rb : Reads s.heap b (.tuple ys) bs) (hal : alikeAll xs ys = true)
    (hu : A.units + min (PyData.tuple xs).depth (PyData.tuple ys).depth < cLine) (hq : Q (dataLt (.tuple xs) (.tuple ys)) s) : wpAny (model prog w) A (oneLt' true a b) Q E s := by
  cases ra with
  | @tuple l o vs n _ as₁ h1 h2 h3 h4 =>
    cases rb with
    | @tuple l' o' vs' n' _ bs₁ k1 k2 k3 k4 =>
      have n1 : vs.size = xs.length := by simpa using SeqAt.ReadsAll.length _ _ _ h4
      have n2 : vs'.size = ys.length := by simpa using SeqAt.ReadsAll.length _ _ _ k4
      rw [dataLt_tuple, ← firstLt_toks xs ys hal, ← n1, ← n2] at hq
      rw [oneLt'_eq]
      simp only [if_true]
      refine wpAny_bind (wpAny_cRoomFor (SeqAt.room_here hu) ?_)
      refine wpAny_bind (wpAny_callSpecialIfBound?_slot (T := "tuple") ⟨_, h1, h2⟩ F.slot_tuple_lt (call_tuple_lt (e := SeqAt.pairEq xs ys) (r := fun j => dataLt (xs.getD j .none) (ys.getD j .none)) ⟨_, h1, h2, _, h3⟩ ⟨_, k1, k2, _, k3⟩ (fun j j1 j2 => ?_) (fun j j1 j2 hj => ?_) ?_))
      · have := eqAt_alikeAll xs ys A.in1 s vs.toList vs'.toList _ _ h4 k4 hal (SeqAt.room_in hu) j (by simpa using j1) (by simpa using j2)
        simpa using this
      · have := rcLt_alikeAll xs ys A.in1 s vs.toList vs'.toList _ _ h4 k4 hal (SeqAt.room_in hu) j (by simpa using j1) (by simpa using j2) hj
        simpa using this
      · exact wpAny_truthy_bool hq
/-- the first item of each, none where there is none -/
theorem first_mapM {M : PySem.Model} : ∀ (vs : List Value) (cs : List (List Int)) {Q : List (Option Value) → Shared → Prop}, EachIs (IntTup s.heap) vs cs →
    (∀ fs : List (Option Value), EachIs (fun (f : Option Value) (c : List Int) => f.isSome = !c.isEmpty) fs cs → Q fs s) → wpAny M A (vs.mapM firstOfTuple') Q E s
  | _, _, Q, .nil, h => by rw [List.mapM_nil]; exact wpAny_pure (h _ .nil)
  | _, _, Q, .cons (a := v) (b := c) (as := vs) (bs := cs) x t, h => by
    obtain ⟨b, o, xs, n, rfl, ho, hc, hd, hi⟩ := x
    rw [List.mapM_cons]
    refine wpAny_bind ?_
    rw [kas_first_eq]
    refine wpAny_bind (Looks.here (show Looks M s.heap (typeOf (.ref b)) o.cls from (Looks.ld ho).andThen .now) ?_)
    rw [hc, if_neg (by first | decide | simp)]
    refine wpAny_bind (listItems_at ho hd (wpAny_pure ?_))
    refine wpAny_bind (first_mapM vs cs (Q := fun bs s' => wpAny M A (pure (xs[0]? :: bs)) Q E s') t fun fs e => wpAny_pure (h _ (.cons ?_ e)))
    rw [← Array.getElem?_toList]
    generalize xs.toList = ys at hi
    cases hi with
    | nil => rfl
    | cons k tk r => rfl
theorem firsts_all : ∀ {fs : List (Option Value)} {cs : List (List Int)}, EachIs (fun (f : Option Value) (c : List Int) => f.isSome = !c.isEmpty) fs cs → fs.all (fun x => x.isSome) = cs.all fun c => !c.isEmpty
  | _, _, .nil => rfl
  | _, _, .cons h t => by rw [List.all_cons, List.all_cons, h, firsts_all t]
/-- the kind of the keys where some tuple is empty -/
theorem kind_tups {M : PySem.Model} {vs : List Value} {cs : List (List Int)} {Q : SortKind → Shared → Prop} (e : EachIs (IntTup s.heap) vs cs) (h2 : 2 ≤ vs.length) (hne : cs.all (fun c => !c.isEmpty) = false)
    (h : Q (if (cs.getD 0 []).isEmpty then oneType' else general') s) : wpAny M A (keyKind' vs.toArray) Q E s := by
  obtain ⟨v₁, v₂, rest, rfl⟩ : ∃ v₁ v₂ rest, vs = v₁ :: v₂ :: rest := by
    match vs, h2 with
    | [], h2 => simp at h2
    | [_], h2 => simp at h2
    | v₁ :: v₂ :: rest, _ => exact ⟨v₁, v₂, rest, rfl⟩
  rw [keyKind'_eq, List.mapM_toArray, map_eq_pure_bind]
  refine wpAny_bind (wpAny_bind (first_mapM _ cs e fun fs ef => wpAny_pure ?_))
  have hall : (fs.toArray.all fun x => x.isSome) = false := by
    rw [List.all_toArray, firsts_all ef]
    exact hne
  rw [if_neg (by rw [hall]; exact Bool.false_ne_true)]
  cases ef with
  | nil => cases e
  | @cons f c fs cs hf ef =>
    have e0 : ((f :: fs).toArray[0]?.bind id).isSome = !c.isEmpty := by
      rw [← hf]
      simp
    have e1 : ((c :: cs).getD 0 []).isEmpty = c.isEmpty := rfl
    rw [e1] at h
    cases hc : c.isEmpty with
    | false =>
      rw [hc] at e0 h
      rw [if_pos (by rw [e0]; rfl)]
      exact wpAny_pure h
    | true =>
      rw [hc] at e0 h
      rw [if_neg (by rw [e0]; exact Bool.false_ne_true)]
      have hT : ∀ v ∈ v₁ :: v₂ :: rest, Looks M s.heap (typeOf v) (.type "tuple") := fun v hv => by
        obtain ⟨d, hd, b, o, xs, n, rfl, ho, hc, _⟩ := e.left v hv
        exact hc ▸ (Looks.ld ho).andThen .now
      rw [oneTypeOnly'_eq, List.mapM_toArray, map_eq_pure_bind]
      refine wpAny_bind (wpAny_bind (wpAny_bind (kas_mapM (r := .type "tuple") _ (fun v hv Q' hq => (hT v hv).here hq) (wpAny_pure ?_))))
      have hall : ((List.map (fun _ => Value.type "tuple") (v₁ :: v₂ :: rest)).toArray.all fun x => x == Value.type "tuple") = true := by
        simp only [List.all_toArray, List.all_map, List.all_eq_true]
        intro _ _
        exact beq_self_eq_true (Value.type "tuple")
      have h0 : (List.map (fun _ => Value.type "tuple") (v₁ :: v₂ :: rest)).toArray[0]? = some (Value.type "tuple") := by simp
      rw [h0]
      simp only [hall, if_true]
      exact wpAny_pure (wpAny_pure h)
theorem each_tups {vs : List Value} {cs : List (List Int)} (e : EachIs (IntTup s.heap) vs cs) : EachIs (fun v d => ∃ as, Reads s.heap v d as) vs (cs.map tupD) := by
  induction e with
  | nil => exact .nil
  | cons h t ih => exact .cons h.reads ih
theorem sortsAt_tups {vs : List Value} {cs : List (List Int)} (e : EachIs (IntTup s.heap) vs cs) (hu : A.units + 1 < cLine) : SortsAt prog w A s (dataKind s.heap (cs.map tupD)) vs := by
  have hal := alike_tups cs
  have hud : ∀ d, d ∈ cs.map tupD → A.units + d.depth < cLine := fun d hd => by
    obtain ⟨c, _, rfl⟩ := List.mem_map.mp hd
    rw [depth_tup]
    exact hu
  cases hne : cs.all (fun c => !c.isEmpty) with
  | true =>
    refine SortsAt.data (each_tups e) hal (.inl fun d hd => ?_) hud
    obtain ⟨c, hc, rfl⟩ := List.mem_map.mp hd
    have q := List.all_eq_true.mp hne c hc
    cases c with
    | nil => exact absurd q (by simp)
    | cons x r => exact ⟨_, _, rfl⟩
  | false =>
    have room : ∀ {d d' : PyData}, d ∈ cs.map tupD → A.units + min d.depth d'.depth < cLine := fun {d d'} hd => Nat.lt_of_le_of_lt (Nat.add_le_add_left (Nat.min_le_left _ _) _) (hud d hd)
    refine ⟨fun v hv => ?_, if (cs.getD 0 []).isEmpty then oneType' else general', ?_, fun h2 E Q hq => kind_tups e h2 hne hq⟩
    · obtain ⟨d, hd, as, r⟩ := (each_tups e).left v hv
      exact ⟨_, dataKind_some hal hd r⟩
    · intro E x y a b Q ha hb hq
      obtain ⟨d, as, hd, ra, rfl⟩ := dataKind_inv ha
      obtain ⟨d', as', hd', rb, rfl⟩ := dataKind_inv hb
      have h1 := hal d hd d' hd'
      have h2 := room (d' := d') hd
      obtain ⟨c, _, rfl⟩ := List.mem_map.mp hd
      obtain ⟨c', _, rfl⟩ := List.mem_map.mp hd'
      split
      · rw [keyLt'_oneType]
        exact oneLt_tups ra rb (alike_ints c c') h2 hq
      · show wpAny (model prog w) A (oneLt' false x y) Q E s
        exact oneLt_alike (fun z => nomatch z) ra rb h1 (fun z => nomatch z) h2 hq
end
theorem map_snd_zip_self : ∀ vs : List Value, (vs.zip vs).map Prod.snd = vs
  | [] => rfl
  | v :: vs => by rw [List.zip_cons_cons, List.map_cons, map_snd_zip_self vs]
theorem sortVals_perm {κ : PyProof.Rows.KeyKind} (vs : List Value) : (sortVals κ false vs vs).Perm vs := by
  unfold sortVals
  have h := (List.mergeSort_perm (vs.zip vs) (sortLe κ.toKeyOrd false fun p : Keyed => keyD κ p.1)).map Prod.snd
  rw [map_snd_zip_self] at h
  exact h
theorem perm_unmap {α β : Type} (f : α → β) {l m : List β} (p : l.Perm m) : ∀ ks : List α, m = ks.map f → ∃ ks' : List α, ks'.Perm ks ∧ l = ks'.map f := by
  induction p with
  | nil =>
    intro ks e
    exact ⟨ks, List.Perm.refl _, e⟩
  | cons x p ih =>
    intro ks e
    cases ks with
    | nil => cases e
    | cons k kt =>
      rw [List.map_cons] at e
      obtain ⟨e1, e2⟩ := List.cons.inj e
      obtain ⟨k', p', e'⟩ := ih kt e2
      exact ⟨k :: k', p'.cons k, by rw [List.map_cons, e1, e']⟩
  | swap x y l =>
    intro ks e
    cases ks with
    | nil => cases e
    | cons k kt =>
      rw [List.map_cons] at e
      obtain ⟨e1, e2⟩ := List.cons.inj e
      cases kt with
      | nil => cases e2
      | cons k2 kt =>
        rw [List.map_cons] at e2
        obtain ⟨e2, e3⟩ := List.cons.inj e2
        exact ⟨k2 :: k :: kt, List.Perm.swap _ _ _, by rw [List.map_cons, List.map_cons, e1, e2, e3]⟩
  | trans p1 p2 ih1 ih2 =>
    intro ks e
    obtain ⟨k2, q2, e2⟩ := ih2 ks e
    obtain ⟨k1, q1, e1⟩ := ih1 k2 e2
    exact ⟨k1, q1.trans q2, e1⟩
section
variable {X : Cx} {pins : List (Addr × Obj)} {σ : L2.St} {H : Hp} {s : Shared}
theorem intTup_of (I : Inv X pins σ H s) {b : Addr} {c : List Int} (h : SqT X.K H b (c.map V.int)) : IntTup s.heap (.ref b) c := by
  obtain ⟨its, r, ⟨o, ho, hc, n, hd⟩, _⟩ := I.tuple h
  exact ⟨b, o, its.toArray, n, rfl, ho, hc, hd, by simpa using r.ints⟩
theorem each_refs (I : Inv X pins σ H s) : ∀ {ks : List (Addr × List Int)}, (∀ p ∈ ks, SqT X.K H p.1 (p.2.map V.int)) → EachIs (IntTup s.heap) (ks.map fun p => Value.ref p.1) (ks.map (·.2))
  | [], _ => .nil
  | p :: ks, h => .cons (intTup_of I (h p (List.mem_cons_self ..))) (each_refs I fun q hq => h q (List.mem_cons_of_mem _ hq))
theorem each_keep {h h' : Heap} {vs : List Value} {cs : List (List Int)} (e : EachIs (IntTup h) vs cs) (k : ∀ b o, h.get? b = some o → h'.get? b = some o) : EachIs (IntTup h') vs cs := e.mono fun _ _ x => x.keep k
end
/-- sorted(xs), xs a list of tuples of ints of any lengths: the same items in some order -/
def rSortCs (K : PySem.W.Frag) : List V → Hp → VK → Prop := fun vs H Q => ∃ (a : Addr) (ks : List (Addr × List Int)), vs = [V.ref a] ∧ SqL K H a (ks.map fun p => V.ref p.1) ∧ (∀ p ∈ ks, SqT K H p.1 (p.2.map V.int)) ∧
  ∀ (ks' : List (Addr × List Int)) (p : Addr), ks'.Perm ks → H p = none → Q (.ref p) (upd H p (.lst (ks'.map fun q => V.ref q.1)))
theorem cr_sortCs {X : Cx} (hu : X.A.units + 64 < cLine) : CallR X (.builtin "sorted") (rSortCs X.K) := by
  intro pins s σ H vs us Q I r h
  obtain ⟨a, ks, rfl, hl, hk, q⟩ := h
  obtain ⟨its, rv, pl, hz⟩ := I.list hl
  rw [Vals.ref1 r]
  have ei := refs_of_vals rv
  subst ei
  have e0 := each_refs I hk
  have e1 := each_keep e0 (fun b o => sorting_copy_old (h := s.heap) (vs := ks.map fun p => Value.ref p.1) (b := b) (o := o))
  refine sorted_vals pl.isList (sortsAt_tups (s := { s with heap := sortingHeap (copyHeap s.heap (ks.map fun p => Value.ref p.1)) (s.heap.objs.size + 1) (ks.map fun p => Value.ref p.1) }) e1 (by
    show X.A.units + 1 + 1 + 1 < cLine
    omega)) (by rw [← rv.length]; exact hz) ?_
  obtain ⟨ks', pk, ek⟩ := perm_unmap (fun p : Addr × List Int => Value.ref p.1) (sortVals_perm (κ := dataKind (sortingHeap (copyHeap s.heap (ks.map fun p => Value.ref p.1)) (s.heap.objs.size + 1) (ks.map fun p => Value.ref p.1)) ((ks.map (·.2)).map tupD)) (ks.map fun p => Value.ref p.1)) ks rfl
  rw [ek]
  obtain ⟨ep, he'⟩ := PyProof.Rows.sortedAll_at s.heap (ks.map fun p => Value.ref p.1) (ks'.map fun p => Value.ref p.1).toArray
  have hlen : (ks'.map fun q => V.ref q.1).length ≤ sizeLine := by
    rw [List.length_map, pk.length_eq]
    rw [List.length_map] at hz
    exact hz
  exact ⟨.ref _, upd H (s.heap.objs.size + 1) (.lst (ks'.map fun q => V.ref q.1)), I.laid (t' := s.toks) (fun _ _ => PyProof.Rows.sortedAll_old) (Nat.le_succ _) ⟨hlen, _, ep, vals_of_refs ks', he'⟩, rfl, q ks' _ pk (I.hok.fresh (Nat.le_succ _))⟩
end Rb
/-! ## RbSort2 -/
namespace Rb
open PySem PySem.W PySem.Calls PyProof.Rows L2

/-! ### set(t), t a tuple of ints -/
def rSetI (K : PySem.W.Frag) (w : World) : List V → Hp → VK → Prop := fun xs H Q => ∃ (p : Addr) (ns : List Int), xs = [V.ref p] ∧ SqT K H p (ns.map V.int) ∧ ns.length ≤ 1000 ∧
  ∀ (a : Addr) (c : Nat), H a = none → c ≤ ns.length → Q (.ref a) (upd H a (SetO w a (fun j => decide (j ∈ ns)) c))
theorem cr_setI {X : Cx} (hc : X.calm = true) : CallR X (.type "set") (rSetI X.K X.w) := by
  intro pins s σ H xs us Q I r h
  obtain ⟨p, ns, rfl, hp, hl, q⟩ := h
  rw [Vals.ref1 r]
  obtain ⟨its, rv, pt, hz⟩ := I.tuple hp
  have hi : IntsAre its.toArray.toList ns := ints_of_vals rv
  have hn : H s.heap.objs.size = none := I.hok.fresh (Nat.le_refl _)
  refine call_set_tupI (P := X.prog) (w := X.w) ns (I.ok.hd hc) (show s.heap.IsTuple p its.toArray from pt) hi (by unfold scanBound; omega) fun h' tk c R1 hcn k => ?_
  exact ⟨.ref s.heap.objs.size, upd H s.heap.objs.size (SetO X.w s.heap.objs.size (fun j => decide (j ∈ ns)) c), I.laid (t' := tk) k (Nat.le_refl _) (setO_new R1), rfl, q _ c hn hcn⟩

/-! ### sorted(t), t a tuple of ints -/
def rSortTI (K : PySem.W.Frag) : List V → Hp → VK → Prop := fun vs H Q => ∃ (a : Addr) (ns : List Int), vs = [V.ref a] ∧ SqT K H a (ns.map V.int) ∧ ns.length < 64 ∧ ∀ (ns' : List Int) (p : Addr), ns'.Perm ns → ns'.Pairwise (· ≤ ·) → H p = none → Q (.ref p) (upd H p (.lst (ns'.map V.int)))
theorem cr_sortTI {X : Cx} : CallR X (.builtin "sorted") (rSortTI X.K) := by
  intro pins s σ H vs us Q I r h
  obtain ⟨a, ns, rfl, hs, few, q⟩ := h
  obtain ⟨its, rv, ⟨o, ho, hc, n, hd⟩, _⟩ := I.tuple hs
  rw [Vals.ref1 r]
  have hi := rv.ints
  have few' : its.length < 64 := by rw [hi.length]; exact few
  refine Calls.call_function_entry kind_sorted plain_sorted entry_sorted (args_sorted1 _) ?_
  unfold Builtin.«sorted»
  refine wpAny_bind (m := checkCount "sorted" 1 1 _) (wpAny_pure ?_)
  refine wpAny_bind (wpAny_collect_seq a (.inr rfl) ho hc hd (fun h1 k1 => ?_) (by rw [List.size_toArray, sizeLine_eq]; omega))
  have J := I.kept (t' := s.toks) k1
  refine wpAny_bind (wpAny_newList ?_ (by rw [List.toList_toArray, sizeLine_eq]; omega))
  have hL : (h1.push (seqObj "list" its.toArray 0)).get? h1.objs.size = some (seqObj "list" its.toArray 0) := Heap.get?_push_size _ rfl
  refine wpAny_bind (wpAny_holding (wpAny_call_entry slot_list_sort ⟨_, hL, rfl⟩ entry_list_sort (list_sort_tree (s := { s with heap := h1.push (seqObj "list" its.toArray 0) }) hL hi few' fun out ns' b1 b2 b3 => ⟨_, rfl, wpAny_pure ⟨_, rfl, ?_⟩⟩) (args_list_sort _)))
  obtain ⟨ep, at'⟩ := sortedHeap_at (out := out) hL
  refine ⟨.ref h1.objs.size, upd H h1.objs.size (.lst (ns'.map V.int)), J.laid (t' := s.toks) (fun b u e => ?_) (Nat.le_refl _) ⟨?_, out.toList, ep, vals_of_ints b1, at'⟩, rfl, q ns' _ b2 b3 (J.hok.fresh (Nat.le_refl _))⟩
  · have lt := Heap.lt_size e
    exact (sortedHeap_old (Nat.ne_of_lt lt) (by rw [size_push']; exact Nat.lt_succ_of_lt lt)).trans (Heap.get?_push_of_some _ e)
  · rw [List.length_map, b2.length_eq, sizeLine_eq]
    omega
/-- sorted(xs), a list or a tuple of ints -/
def rSortLT (K : PySem.W.Frag) : List V → Hp → VK → Prop := fun vs H Q => rSorted K vs H Q ∨ rSortTI K vs H Q
theorem cr_sortLT {X : Cx} : CallR X (.builtin "sorted") (rSortLT X.K) := CallR.or cr_sorted cr_sortTI

/-! ### sorted(set), a set of tuples of ints of any lengths -/
section
variable {P : Program} {w : World} {A : Around} {E : Value → Shared → Prop} {s : Shared}
theorem intTup_isT {h : Heap} {k : List Int} {b : Addr} (x : IsT P w h k b) : IntTup h (.ref b) k := by
  obtain ⟨o, items, n, ho, hc, hd, hi⟩ := x
  exact ⟨b, o, items, n, rfl, ho, hc, hd, ints_of_items hi⟩
theorem each_isT {h : Heap} : ∀ {L : List (Addr × List Int)}, (∀ p ∈ L, IntTup h (.ref p.1) p.2) → EachIs (IntTup h) (L.map fun p => Value.ref p.1) (L.map (·.2))
  | [], _ => .nil
  | p :: L, x => .cons (x p (List.mem_cons_self ..)) (each_isT fun q hq => x q (List.mem_cons_of_mem _ hq))
theorem sorted_setC {a : Addr} {L : List (Addr × List Int)} {es : Array (Int × Value)} {ep : Nat} {t : SetTable} {Q : Value → Shared → Prop} (R : SetTR P w s.heap a L es ep t) (hh : A.handled = none) (hu : A.units + 64 < cLine)
    (hQ : ∀ s' p (out : Array Value) (c : Nat) (L' : List (Addr × List Int)), (∀ b o, s.heap.get? b = some o → s'.heap.get? b = some o) → s'.gens = s.gens → s'.os = s.os → s.heap.objs.size ≤ p →
      s'.heap.get? p = some (seqObj "list" out c) → out.toList = L'.map (fun q => Value.ref q.1) → L'.Perm L → Q (.ref p) s') :
    wpAny (model P w) A (call (.builtin "sorted") [.ref a]) Q E s := by
  obtain ⟨o, ho, hex, hd⟩ := R.ob
  have hsz := R.size
  have hfew := R.few
  refine Calls.call_function_entry kind_sorted plain_sorted entry_sorted (args_sorted1 _) ?_
  unfold Builtin.«sorted»
  refine wpAny_bind (m := checkCount "sorted" 1 1 _) (wpAny_pure ?_)
  refine wpAny_bind (collect_set (A := A.in1) hh ⟨o, ho, hex.1, hd⟩ R.fits (by unfold scanBound; omega) R.tab.ris R.led fun s1 vs k1 hz g1 o1 pm => ?_)
  have hes : es.toList.map (·.2) = L.map fun q => Value.ref q.1 := by
    rw [R.rows]
    unfold L2.rowsOf
    rw [List.map_map] <;> rfl
  rw [hes] at pm
  obtain ⟨L1, p1, e1⟩ := perm_unmap (fun q : Addr × List Int => Value.ref q.1) pm L rfl
  subst e1
  have hvl : (L1.map fun q => Value.ref q.1).length < 64 := by rw [List.length_map, p1.length_eq]; exact hfew
  refine wpAny_bind (wpAny_newList ?_ (by rw [sizeLine_eq]; omega))
  have hoL : (s1.heap.push (seqObj "list" (L1.map fun q => Value.ref q.1).toArray 0)).get? s1.heap.objs.size = some (seqObj "list" (L1.map fun q => Value.ref q.1).toArray 0) := Heap.get?_push_size _ rfl
  show wpAny _ _ _ _ _ { s1 with heap := s1.heap.push (seqObj "list" (L1.map fun q => Value.ref q.1).toArray 0) }
  have er : EachIs (IntTup (sortingHeap (s1.heap.push (seqObj "list" (L1.map fun q => Value.ref q.1).toArray 0)) s1.heap.objs.size (L1.map fun q => Value.ref q.1))) (L1.map fun q => Value.ref q.1) (L1.map (·.2)) := by
    refine each_isT fun q hq => ?_
    have hq' : q ∈ L := p1.mem_iff.mp hq
    refine (intTup_isT (R.tup q hq')).keep fun b u e => ?_
    have e' := k1 b u e
    exact sortingHeap_old (Nat.ne_of_lt (Heap.lt_size e')) (Heap.get?_push_of_some _ e')
  refine wpAny_bind (wpAny_holding (wpAny_call_entry slot_list_sort ⟨_, hoL, rfl⟩ entry_list_sort ?body (args_list_sort _)))
  case body =>
    show wpAny (model P w) A.in1.in1 (Builtin.«list.sort» ⟨[.ref s1.heap.objs.size], []⟩) _ _ _
    refine list_sort_vals (s := { s1 with heap := s1.heap.push (seqObj "list" (L1.map fun q => Value.ref q.1).toArray 0) }) hoL (sortsAt_tups (s := { s1 with heap := sortingHeap (s1.heap.push (seqObj "list" (L1.map fun q => Value.ref q.1).toArray 0)) s1.heap.objs.size (L1.map fun q => Value.ref q.1) }) er (by
      show A.units + 1 + 1 + 1 < cLine
      omega)) (by rw [sizeLine_eq]; omega) ?_
    obtain ⟨L', p', e'⟩ := perm_unmap (fun q : Addr × List Int => Value.ref q.1) (sortVals_perm (κ := dataKind (sortingHeap (s1.heap.push (seqObj "list" (L1.map fun q => Value.ref q.1).toArray 0)) s1.heap.objs.size (L1.map fun q => Value.ref q.1)) ((L1.map (·.2)).map tupD)) (L1.map fun q => Value.ref q.1)) L1 rfl
    obtain ⟨c, hcc⟩ := sortedHeap_at (vs := L1.map fun q => Value.ref q.1) (out := (sortVals (dataKind (sortingHeap (s1.heap.push (seqObj "list" (L1.map fun q => Value.ref q.1).toArray 0)) s1.heap.objs.size (L1.map fun q => Value.ref q.1)) ((L1.map (·.2)).map tupD)) false (L1.map fun q => Value.ref q.1) (L1.map fun q => Value.ref q.1)).toArray) hoL
    refine ⟨_, rfl, wpAny_pure ⟨_, rfl, hQ _ s1.heap.objs.size _ c L' (fun b u e => ?_) g1 o1 hz hcc (by rw [List.toList_toArray]; exact e') (p'.trans p1)⟩⟩
    have q := k1 b u e
    have hlt := Heap.lt_size q
    show (sortedHeap (s1.heap.push (seqObj "list" (L1.map fun q => Value.ref q.1).toArray 0)) s1.heap.objs.size _ _).get? b = some u
    rw [sortedHeap_old (Nat.ne_of_lt hlt) (by rw [size_push']; exact Nat.lt_succ_of_lt hlt)]
    exact Heap.get?_push_of_some _ q
end
def rSortSC (K : PySem.W.Frag) (P : Program) (w : World) : List V → Hp → VK → Prop := fun vs H Q => ∃ (a : Addr) (L : List (Addr × List Int)), vs = [V.ref a] ∧ H a = some (SetTO P w a L) ∧ (∀ p ∈ L, SqT K H p.1 (p.2.map V.int)) ∧
  ∀ (L' : List (Addr × List Int)) (p : Addr), L'.Perm L → (L'.map (·.2)).Nodup → L'.length < 64 → H p = none → Q (.ref p) (upd H p (.lst (L'.map fun q => V.ref q.1)))
theorem cr_sortSC {X : Cx} (hc : X.calm = true) (hu : X.A.units + 64 < cLine) : CallR X (.builtin "sorted") (rSortSC X.K X.prog X.w) := by
  intro pins s σ H vs us Q I r h
  obtain ⟨a, L, rfl, ha, hk, q⟩ := h
  have R0 : SetT0 X.prog X.w s.heap a L := (I.hok a _ ha).1
  obtain ⟨es, ep, t, R⟩ := R0.full fun p hp => I.isT (hk p hp)
  rw [Vals.ref1 r]
  refine sorted_setC R (I.ok.hd hc) hu fun s' p out c L' k g o hp hg hout pm => ?_
  have hfew : L'.length < 64 := by rw [pm.length_eq]; exact R.few
  have hlen : (L'.map fun q => V.ref q.1).length ≤ sizeLine := by rw [List.length_map, sizeLine_eq]; omega
  have hn : H p = none := I.hok.fresh hp
  have hv : Vals (L'.map fun q => V.ref q.1) out.toList := by rw [hout]; exact vals_of_refs L'
  have J : Inv X pins σ (upd H p (.lst (L'.map fun q => V.ref q.1))) { s with heap := s'.heap, gens := s'.gens, drawn := s'.drawn, toks := s'.toks } :=
    I.call (ch := []) (Un.laid k hp hn) (I.hok.laid k hp ⟨hlen, out.toList, c, hv, hg⟩) (by rw [g]; exact I.bare) (fun _ z => nomatch z)
  have e : s' = { s with heap := s'.heap, gens := s'.gens, drawn := s'.drawn, toks := s'.toks } := by
    cases s'
    cases s
    cases o
    rfl
  rw [e]
  exact ⟨.ref p, _, J, rfl, q L' p pm ((pm.map (·.2)).nodup_iff.mpr R.nd) hfew hn⟩
end Rb
/-! ## RbBase -/
namespace Rb
open PySem L2

/-! ### the text by places -/
def top (i : Nat) : Stmt := PySem.Challenge.pw_rebut_k78_whole_learning.main.body.getD i (.Pass ⟨0, 0, 0, 0⟩)
abbrev sMadeClause : Stmt := top 5
abbrev sCheckCount : Stmt := top 6
abbrev sMadeFormula : Stmt := top 7
abbrev sForced : Stmt := top 8
abbrev sFree : Stmt := top 9
abbrev sNegated : Stmt := top 11
abbrev sWith : Stmt := top 12
abbrev sInit : Stmt := inClass (top 14) 0
abbrev sLearned : Stmt := inClass (top 14) 2
abbrev sKnown : Stmt := inClass (top 14) 3
abbrev sKnows : Stmt := inClass (top 14) 4
abbrev sFinished : Stmt := inClass (top 14) 5
abbrev sNeeded : Stmt := inClass (top 14) 6
abbrev sAssume : Stmt := inClass (top 14) 7
abbrev sLearn : Stmt := top 15
abbrev sCell : Stmt := top 17
abbrev sDraws : Stmt := top 18
abbrev sClauseOf : Stmt := top 19
abbrev sRows : Stmt := top 20
abbrev sOfRows : Stmt := top 21
abbrev sFormula : Stmt := top 22
abbrev sBare : Stmt := top 23
abbrev sAssignments : Stmt := top 24
abbrev sMeets : Stmt := top 25
abbrev sModels : Stmt := top 26
abbrev sHopeless : Stmt := top 27
abbrev sPushed : Stmt := top 28
abbrev sOpposite : Stmt := top 29
abbrev sAtOnce : Stmt := top 30
abbrev sGoodLog : Stmt := top 31
abbrev sLaw : Stmt := top 32

/-! ### what the top has made -/
structure Txt (mg : Str → Option Value) : Prop where
  set : mg "set" = none
  sorted : mg "sorted" = none
  tuple : mg "tuple" = none
  list : mg "list" = none
  len : mg "len" = none
  all : mg "all" = none
  abs : mg "abs" = none
  range : mg "range" = none
  int : mg "int" = none
  isi : mg "isinstance" = none
  most : ∃ t, mg "MOST_VARIABLES" = some (.int 40 t)

/-! ### data -/
/-- a tuple of ints -/
abbrev Tp (H : Hp) (a : Addr) (c : List Int) : Prop := H a = some (.tup (c.map V.int))
abbrev Ls (H : Hp) (a : Addr) (c : List Int) : Prop := H a = some (.lst (c.map V.int))
abbrev Each (H : Hp) (ks : List (Addr × List Int)) : Prop := ∀ p ∈ ks, Tp H p.1 p.2
abbrev rfs (ks : List (Addr × List Int)) : List V := ks.map fun p => V.ref p.1
abbrev cls (ks : List (Addr × List Int)) : List (List Int) := ks.map (·.2)
def CsL (H : Hp) (a : Addr) (ks : List (Addr × List Int)) : Prop := H a = some (.lst (rfs ks)) ∧ Each H ks
def CsT (H : Hp) (a : Addr) (ks : List (Addr × List Int)) : Prop := H a = some (.tup (rfs ks)) ∧ Each H ks
/-- a formula -/
def Fm (H : Hp) (f : Addr) (n : Nat) (ks : List (Addr × List Int)) : Prop := ∃ cl, H f = some (.tup [.int n, .ref cl]) ∧ CsT H cl ks
theorem Each.same {H H' : Hp} {ks : List (Addr × List Int)} (e : Same H H') (h : Each H ks) : Each H' ks := fun p hp => e _ _ (h p hp)
theorem CsL.same {H H' : Hp} {a : Addr} {ks : List (Addr × List Int)} (e : Same H H') (h : CsL H a ks) : CsL H' a ks := ⟨e _ _ h.1, Each.same e h.2⟩
theorem CsT.same {H H' : Hp} {a : Addr} {ks : List (Addr × List Int)} (e : Same H H') (h : CsT H a ks) : CsT H' a ks := ⟨e _ _ h.1, Each.same e h.2⟩
theorem Fm.same {H H' : Hp} {f : Addr} {n : Nat} {ks : List (Addr × List Int)} (e : Same H H') (h : Fm H f n ks) : Fm H' f n ks := by
  obtain ⟨cl, h1, h2⟩ := h
  exact ⟨cl, e _ _ h1, h2.same e⟩
/-- a new object -/
theorem Same.new {H : Hp} {p : Addr} {o : HO} (h : H p = none) : Same H (upd H p o) := fun b u e => by rw [upd_ne (ne_of_none e h)]; exact e
/-- a new object, and what it becomes -/
theorem Same.put {H H1 : Hp} {p : Addr} {o : HO} (h : H p = none) (e : Same H H1) : Same H (upd H1 p o) := fun b u q => by rw [upd_ne (ne_of_none q h)]; exact e b u q
theorem seqT {K : PySem.W.Frag} {H H' : Hp} {a : Addr} {xs : List V} (e : Same H H') (h : SqT K H a xs) : SqT K H' a xs := by
  rcases h with (h | ⟨o, h⟩) | h
  · exact .inl (.inl (e _ _ h))
  · exact .inl (.inr ⟨o, e _ _ h⟩)
  · exact .inr h
theorem int_at {ns : List Int} {i : Nat} {x : V} (h : (ns.map V.int)[i]? = some x) : ∃ z, ns[i]? = some z ∧ x = V.int z := by
  rw [List.getElem?_map] at h
  cases e : ns[i]? with
  | none =>
    rw [e] at h
    cases h
  | some z =>
    rw [e] at h
    exact ⟨z, rfl, (Option.some.inj h).symm⟩
theorem ref_at {ks : List (Addr × List Int)} {i : Nat} {x : V} (h : (rfs ks)[i]? = some x) : ∃ p, ks[i]? = some p ∧ x = V.ref p.1 := by
  unfold rfs at h
  rw [List.getElem?_map] at h
  cases e : ks[i]? with
  | none =>
    rw [e] at h
    cases h
  | some z =>
    rw [e] at h
    exact ⟨z, rfl, (Option.some.inj h).symm⟩
theorem inV_ints (x : Int) (ns : List Int) : inV (V.int x) (ns.map V.int) = decide (x ∈ ns) := by
  unfold inV
  induction ns with
  | nil => rfl
  | cons y r ih =>
    rw [List.map_cons, List.any_cons, ih]
    have e : eqV (V.int y) (V.int x) = decide (y = x) := by
      first
        | rfl
        | simp [eqV]
    rw [e]
    by_cases h : y = x
    · subst h
      simp
    · have h' : ¬ x = y := fun q => h q.symm
      simp [h, h']
theorem flat_ints (ns : List Int) : (ns.map V.int).all flatV = true := by
  rw [List.all_map]
  exact List.all_eq_true.mpr fun x _ => rfl
theorem op_inK {X : Cx} {K : PySem.W.Frag} (h : X.K = K) : OpR X (compareOp .In) (rIn K false) := by
  subst h
  exact op_in_seq
theorem op_notInK {X : Cx} {K : PySem.W.Frag} (h : X.K = K) : OpR X (compareOp .NotIn) (rIn K true) := by
  subst h
  exact op_notIn_seq
theorem dec_ii {i j : Int} : decide (V.int i = V.int j) = decide (i = j) := by
  by_cases h : i = j
  · subst h
    simp
  · have h' : ¬ V.int i = V.int j := fun q => h (V.int.inj q)
    rw [decide_eq_false h, decide_eq_false h']
theorem take_snoc {α : Type} {l : List α} {i : Nat} {x : α} (h : l[i]? = some x) : l.take (i + 1) = l.take i ++ [x] := by
  obtain ⟨hl, e⟩ := List.getElem?_eq_some_iff.mp h
  rw [List.take_succ_eq_append_getElem hl, e]

/-! ### the learner -/
def lf (f l a : Addr) : List (Str × V) := putF "_assumptions" (.ref a) (putF "_learned" (.ref l) (putF "_formula" (.ref f) []))
theorem nmFL : ¬ (("_formula" : Str) = "_learned") := by decide +kernel
theorem nmFA : ¬ (("_formula" : Str) = "_assumptions") := by decide +kernel
theorem nmLA : ¬ (("_learned" : Str) = "_assumptions") := by decide +kernel
theorem lf2 (u v : V) : putF "_learned" v (putF "_formula" u []) = ([("_formula", u), ("_learned", v)] : List (Str × V)) := by
  show (if ("_formula" : Str) = "_learned" then _ else (("_formula" : Str), u) :: putF "_learned" v []) = _
  rw [if_neg nmFL]
  all_goals rfl
theorem lf_F (f l a : Addr) : (lf f l a).lookup ("_formula" : Str) = some (.ref f) := by
  unfold lf
  rw [lookup_putF, if_neg nmFA, lookup_putF, if_neg nmFL, lookup_putF, if_pos rfl]
theorem lf_L (f l a : Addr) : (lf f l a).lookup ("_learned" : Str) = some (.ref l) := by
  unfold lf
  rw [lookup_putF, if_neg nmLA, lookup_putF, if_pos rfl]
theorem lf_A (f l a : Addr) : (lf f l a).lookup ("_assumptions" : Str) = some (.ref a) := by
  unfold lf
  rw [lookup_putF, if_pos rfl]
theorem lf_no (f l a : Addr) {m : Str} (h1 : ¬ m = "_assumptions") (h2 : ¬ m = "_learned") (h3 : ¬ m = "_formula") : (lf f l a).lookup m = none := by
  unfold lf
  rw [lookup_putF, if_neg h1, lookup_putF, if_neg h2, lookup_putF, if_neg h3]
  all_goals rfl
structure TxtC (K : PySem.W.Frag) (C : Addr) : Prop where
  cl : Cls K C
  nF : NoAttr K C "_formula"
  nL : NoAttr K C "_learned"
  nA : NoAttr K C "_assumptions"
structure Lr (C : Addr) (H : Hp) (p f l a : Addr) (n : Nat) (ks ls : List (Addr × List Int)) (A : List Int) : Prop where
  ob : ∃ dx, H p = some (.ins C dx (lf f l a))
  fm : Fm H f n ks
  ld : CsL H l ls
  as : Ls H a A
  ne : l ≠ a
theorem Lr.same {C : Addr} {H H' : Hp} {p f l a : Addr} {n : Nat} {ks ls : List (Addr × List Int)} {A : List Int} (h : Lr C H p f l a n ks ls A) (e : Same H H') : Lr C H' p f l a n ks ls A := by
  obtain ⟨⟨dx, h1⟩, h2, h3, h4, h5⟩ := h
  exact ⟨⟨dx, e _ _ h1⟩, h2.same e, h3.same e, e _ _ h4, h5⟩
structure Okl (n : Nat) (ks ls : List (Addr × List Int)) : Prop where
  n40 : n ≤ 40
  k : Clauses n (cls ks)
  l : Clauses n (cls ls)
  few : ks.length + ls.length < 64
theorem Clauses.app {n : Int} {a b : List (List Int)} (h : Clauses n a) (g : Clauses n b) : Clauses n (a ++ b) := fun c hc => by
  rcases List.mem_append.mp hc with q | q
  · exact h c q
  · exact g c q
theorem Clauses.mem {n : Int} {a b : List (List Int)} (h : Clauses n b) (e : ∀ c, c ∈ a ↔ c ∈ b) : Clauses n a := fun c hc => h c ((e c).mp hc)
theorem contra_iff {cs ds : List (List Int)} {ns ms : List Int} (h : ∀ c, c ∈ cs ↔ c ∈ ds) (g : ∀ l, l ∈ ns ↔ l ∈ ms) : Contra cs ns ↔ Contra ds ms :=
  ⟨contra_congr (fun c hc => (h c).mp hc) fun l hl => (g l).mp hl, contra_congr (fun c hc => (h c).mpr hc) fun l hl => (g l).mpr hl⟩
/-- what is not one of the learner's two lists stays -/
abbrev But (l a : Addr) (H H' : Hp) : Prop := ∀ b o, H b = some o → b ≠ l → b ≠ a → H' b = some o
theorem tup_ne {H : Hp} {b l : Addr} {xs ys : List V} (h : H b = some (.tup xs)) (h' : H l = some (.lst ys)) : b ≠ l := ne_of h h' (by intro z; cases z)
theorem Lr.setA {C : Addr} {H : Hp} {p f l a : Addr} {n : Nat} {ks ls : List (Addr × List Int)} {A : List Int} (h : Lr C H p f l a n ks ls A) (B : List Int) : Lr C (upd H a (.lst (B.map V.int))) p f l a n ks ls B := by
  obtain ⟨⟨dx, h1⟩, ⟨cl, h2, h3, h4⟩, ⟨h5, h6⟩, h7, h8⟩ := h
  have nt : ∀ {b : Addr} {xs : List V}, H b = some (.tup xs) → upd H a (.lst (B.map V.int)) b = some (.tup xs) := fun e => by rw [upd_ne (tup_ne e h7)]; exact e
  exact ⟨⟨dx, by rw [upd_ne (ne_of h1 h7 (by intro z; cases z))]; exact h1⟩, ⟨cl, nt h2, nt h3, fun q hq => nt (h4 q hq)⟩, ⟨by rw [upd_ne h8]; exact h5, fun q hq => nt (h6 q hq)⟩, upd_same, h8⟩
theorem Lr.addL {C : Addr} {H : Hp} {p f l a t : Addr} {n : Nat} {ks ls : List (Addr × List Int)} {A c : List Int} (h : Lr C H p f l a n ks ls A) (ht : Tp H t c) : Lr C (upd H l (.lst (rfs ls ++ [V.ref t]))) p f l a n ks (ls ++ [(t, c)]) A := by
  obtain ⟨⟨dx, h1⟩, ⟨cl, h2, h3, h4⟩, ⟨h5, h6⟩, h7, h8⟩ := h
  have nt : ∀ {b : Addr} {xs : List V}, H b = some (.tup xs) → upd H l (.lst (rfs ls ++ [V.ref t])) b = some (.tup xs) := fun e => by rw [upd_ne (tup_ne e h5)]; exact e
  refine ⟨⟨dx, by rw [upd_ne (ne_of h1 h5 (by intro z; cases z))]; exact h1⟩, ⟨cl, nt h2, nt h3, fun q hq => nt (h4 q hq)⟩, ⟨by rw [upd_same]; simp [rfs], fun q hq => ?_⟩, by rw [Ls, upd_ne h8.symm]; exact h7, h8⟩
  rcases List.mem_append.mp hq with hq | hq
  · exact nt (h6 q hq)
  · rw [List.mem_singleton.mp hq]
    exact nt ht
theorem But.of {l a : Addr} {H H' : Hp} (e : Same H H') : But l a H H' := fun b o h _ _ => e b o h
theorem But.trans {l a : Addr} {H H1 H2 : Hp} (x : But l a H H1) (y : But l a H1 H2) : But l a H H2 := fun b o h h1 h2 => y b o (x b o h h1 h2) h1 h2
theorem But.a {l a : Addr} {H : Hp} {o : HO} : But l a H (upd H a o) := fun b u h _ h2 => by rw [upd_ne h2]; exact h
theorem But.l {l a : Addr} {H : Hp} {o : HO} : But l a H (upd H l o) := fun b u h h1 _ => by rw [upd_ne h1]; exact h
theorem But.same {l a : Addr} {H H1 H2 : Hp} (e : Same H H1) (x : But l a H1 H2) (hl : H l = none) (ha : H a = none) : Same H H2 := fun b o h => x b o (e b o h) (ne_of_none h hl) (ne_of_none h ha)
end Rb
/-! ## RbSpec -/
namespace Rb
open PySem L2
/-! ### the promises -/
/-- made_clause, of a clause -/
def spMadeClause : Sp := fun vs H Q _ => ∃ (a : Addr) (ns : List Int) (n : Int), vs = [.ref a] ∧ Tp H a ns ∧ Clause n ns ∧ ns.length < 64 ∧ ∀ (H' : Hp) (q : Addr), Same H H' → H q = none → Tp H' q ns → Q (.ref q) H'
def spCheck : Sp := fun vs H Q _ => ∃ n : Int, vs = [.int n] ∧ 0 ≤ n ∧ n ≤ 40 ∧ Q .non H
def spMadeFormula : Sp := fun vs H Q _ => ∃ (r : Addr) (n : Nat) (ks : List (Addr × List Int)), vs = [.int n, .ref r] ∧ CsL H r ks ∧ n ≤ 40 ∧ Clauses n (cls ks) ∧ ks.length < 64 ∧
  ∀ (H' : Hp) (q : Addr) (ks' : List (Addr × List Int)), Same H H' → Fm H' q n ks' → (∀ c, c ∈ cls ks' ↔ c ∈ cls ks) → Q (.ref q) H'
def spForced : Sp := fun vs H Q _ => ∃ (f c : Addr) (n : Nat) (ks : List (Addr × List Int)) (ns : List Int), vs = [.ref f, .ref c] ∧ Fm H f n ks ∧ Tp H c ns ∧ n ≤ 40 ∧ Lits n ns ∧ Clauses n (cls ks) ∧
  (∀ H' : Hp, Same H H' → Contra (cls ks) ns → Q .non H') ∧
  ∀ (H' : Hp) (q : Addr) (r : List Int), Same H H' → Tp H' q r → Known (cls ks) ns r → Lits n r → r.Pairwise (· ≤ ·) → Q (.ref q) H'
def spFree : Sp := fun vs H Q _ => ∃ (f c : Addr) (n : Nat) (ks : List (Addr × List Int)) (r : List Int), vs = [.ref f, .ref c] ∧ Fm H f n ks ∧ Tp H c r ∧ n ≤ 40 ∧
  ∀ (H' : Hp) (q : Addr) (fs : List Int), Same H H' → Ls H' q fs → (∀ v ∈ fs, 1 ≤ v ∧ v ≤ n ∧ v ∉ r ∧ -v ∉ r) → (∀ v : Int, 1 ≤ v → v ≤ n → v ∉ r → -v ∉ r → v ∈ fs) → Q (.ref q) H'
def spNegated : Sp := fun vs H Q _ => ∃ (a : Addr) (ns : List Int), vs = [.ref a] ∧ Ls H a ns ∧ ns.length < 64 ∧
  ∀ (H' : Hp) (q : Addr) (c : List Int), Same H H' → Tp H' q c → c.Perm (negs ns) → c.Pairwise (· ≤ ·) → Q (.ref q) H'
def spWith : Sp := fun vs H Q _ => ∃ (f l : Addr) (n : Nat) (ks ls : List (Addr × List Int)), vs = [.ref f, .ref l] ∧ Fm H f n ks ∧ CsL H l ls ∧ n ≤ 40 ∧ Clauses n (cls ks) ∧ Clauses n (cls ls) ∧ ks.length + ls.length < 64 ∧
  ∀ (H' : Hp) (q : Addr) (ks' : List (Addr × List Int)), Same H H' → Fm H' q n ks' → (∀ c, c ∈ cls ks' ↔ c ∈ cls ks ++ cls ls) → Q (.ref q) H'

def spInit (C : Addr) : Sp := fun vs H Q _ => ∃ (p f dx : Addr) (n : Nat) (ks : List (Addr × List Int)), vs = [.ref p, .ref f] ∧ H p = some (.ins C dx []) ∧ Fm H f n ks ∧
  ∀ (H' : Hp) (l a : Addr), Lr C H' p f l a n ks [] [] → H l = none → H a = none → (∀ b o, H b = some o → b ≠ p → H' b = some o) → Q .non H'
def spLearned (C : Addr) : Sp := fun vs H Q _ => ∃ (p f l a : Addr) (n : Nat) (ks ls : List (Addr × List Int)) (A : List Int), vs = [.ref p] ∧ Lr C H p f l a n ks ls A ∧
  ∀ (H' : Hp) (q : Addr), Same H H' → CsL H' q ls → Q (.ref q) H'
def spKnown (C : Addr) : Sp := fun vs H Q _ => ∃ (p f l a m : Addr) (n : Nat) (ks ls : List (Addr × List Int)) (A ns : List Int), vs = [.ref p, .ref m] ∧ Lr C H p f l a n ks ls A ∧ Okl n ks ls ∧ Ls H m ns ∧ Lits n ns ∧
  (∀ H' : Hp, Same H H' → Contra (cls ks ++ cls ls) ns → Q .non H') ∧
  ∀ (H' : Hp) (q : Addr) (r : List Int), Same H H' → Tp H' q r → Known (cls ks ++ cls ls) ns r → Lits n r → r.Pairwise (· ≤ ·) → Q (.ref q) H'
def spKnows (C : Addr) : Sp := fun vs H Q _ => ∃ (p f l a : Addr) (n : Nat) (ks ls : List (Addr × List Int)) (A : List Int), vs = [.ref p] ∧ Lr C H p f l a n ks ls A ∧ Okl n ks ls ∧ Lits n A ∧
  (∀ H' : Hp, Same H H' → Contra (cls ks ++ cls ls) A → Q .non H') ∧
  ∀ (H' : Hp) (q : Addr) (r : List Int), Same H H' → Tp H' q r → Known (cls ks ++ cls ls) A r → Lits n r → r.Pairwise (· ≤ ·) → Q (.ref q) H'
def spFinished (C : Addr) : Sp := fun vs H Q _ => ∃ (p f l a : Addr) (n : Nat) (ks ls : List (Addr × List Int)) (A : List Int), vs = [.ref p] ∧ Lr C H p f l a n ks ls A ∧ Okl n ks ls ∧
  (∀ H' : Hp, Same H H' → Contra (cls ks ++ cls ls) [] → Q (.bl true) H') ∧ (∀ H' : Hp, Same H H' → ¬ Contra (cls ks ++ cls ls) [] → Q (.bl false) H')
def spNeeded (C : Addr) : Sp := fun vs H Q _ => ∃ (p f l a : Addr) (n : Nat) (ks ls : List (Addr × List Int)) (A : List Int), vs = [.ref p] ∧ Lr C H p f l a n ks ls A ∧ Okl n ks ls ∧ Lits n A ∧ Contra (cls ks ++ cls ls) A ∧
  ∀ (H' : Hp) (q : Addr) (B : List Int), Same H H' → Ls H' q B → B.Sublist A → Contra (cls ks ++ cls ls) B → Q (.ref q) H'
def spAssume (C : Addr) : Sp := fun vs H Q _ => ∃ (p f l a : Addr) (n : Nat) (ks ls : List (Addr × List Int)) (A : List Int) (x : Int), vs = [.ref p, .int x] ∧ Lr C H p f l a n ks ls A ∧ Okl n ks ls ∧ ks.length + ls.length + 1 < 64 ∧
  (x ≠ 0 ∧ -(n : Int) ≤ x ∧ x ≤ n) ∧ LInv n (cls ks) (cls ls) A ∧
  ∀ (H' : Hp) (v : V) (ls' : List (Addr × List Int)) (A' : List Int), Lr C H' p f l a n ks ls' A' → But l a H H' → Step n (cls ks) (cls ls) A x (cls ls') A' → Q v H'
def Told (H : Hp) (q : Addr) (n : Nat) (ks : List (Addr × List Int)) : Prop :=
  (∃ (t : Addr) (r : List Int), H q = some (.tup [.str "model", .ref t]) ∧ Tp H t r ∧ Model n (cls ks) r) ∨
  ∃ (t e : Addr) (gs : List (Addr × List Int)), H q = some (.tup [.str "log", .ref t]) ∧ CsT H t (gs ++ [(e, [])]) ∧ Learnt n (cls ks) (cls gs) ∧ Contra (cls ks ++ cls gs) [] ∧ gs.length ≤ 32
def spLearn : Sp := fun vs H Q _ => ∃ (f : Addr) (n : Nat) (ks : List (Addr × List Int)), vs = [.ref f] ∧ Fm H f n ks ∧ n ≤ 5 ∧ Clauses n (cls ks) ∧ ks.length ≤ 25 ∧
  ∀ (H' : Hp) (q : Addr), Same H H' → Told H' q n ks → Q (.ref q) H'
end Rb
/-! ## RbData -/
namespace Rb
open PySem L2
theorem canlay_ints : ∀ c : List Int, PyData.canLayAll0 (c.map .int) = true
  | [] => by simp [PyData.canLayAll0]
  | x :: c => by simp [PyData.canLayAll0, PyData.canLay0, canlay_ints c]
theorem canlay_tup (c : List Int) : (tupD c).canLay0 = true := by
  show PyData.canLay0 (.tuple (c.map .int)) = true
  rw [PyData.canLay0]
  exact canlay_ints c
theorem canlay_tups : ∀ cs : List (List Int), PyData.canLayAll0 (cs.map tupD) = true
  | [] => by simp [PyData.canLayAll0]
  | c :: cs => by simp [PyData.canLayAll0, canlay_tup c, canlay_tups cs]
theorem depth_tups : ∀ cs : List (List Int), PyData.depthAll (cs.map tupD) ≤ 1
  | [] => by simp [PyData.depthAll]
  | c :: cs => by
    have h1 := depth_tups cs
    have h2 := depth_tup c
    simp only [List.map_cons, PyData.depthAll]
    omega
theorem shaped_tup (c : List Int) : SeqAt.shaped (tupD c) = true := by
  show ((tupD c).canLay0 && decide ((tupD c).depth ≤ 64)) = true
  rw [Bool.and_eq_true]
  exact ⟨canlay_tup c, decide_eq_true (by rw [depth_tup]; decide)⟩
theorem shaped_tups (cs : List (List Int)) : SeqAt.shaped (.list (cs.map tupD)) = true := by
  have h1 := depth_tups cs
  show (PyData.canLay0 (.list (cs.map tupD)) && decide (PyData.depth (.list (cs.map tupD)) ≤ 64)) = true
  rw [Bool.and_eq_true]
  exact ⟨by rw [PyData.canLay0]; exact canlay_tups cs, decide_eq_true (by simp only [PyData.depth]; omega)⟩
theorem eqv_ints : ∀ a b : List Int, PyData.eqvAll (a.map .int) (b.map .int) = decide (a = b)
  | [], [] => by simp [PyData.eqvAll]
  | [], y :: b => by simp [PyData.eqvAll]
  | x :: a, [] => by simp [PyData.eqvAll]
  | x :: a, y :: b => by
    rw [List.map_cons, List.map_cons, PyData.eqvAll, eqv_ints a b, PyData.eqv]
    by_cases h1 : x = y
    · subst h1
      by_cases h2 : a = b
      · subst h2
        simp
      · simp [h2]
    · simp [h1]
theorem eqv_tup (a b : List Int) : PyData.eqv (tupD a) (tupD b) = decide (a = b) := by
  show PyData.eqv (.tuple _) (.tuple _) = _
  rw [PyData.eqv]
  exact eqv_ints a b
theorem any_eqv (cs : List (List Int)) (c : List Int) : (cs.map tupD).any (fun z => PyData.eqv z (tupD c)) = decide (c ∈ cs) := by
  induction cs with
  | nil => simp
  | cons d ds ih =>
    rw [List.map_cons, List.any_cons, ih, eqv_tup]
    by_cases h : d = c
    · subst h
      simp
    · have h' : ¬ c = d := fun e => h e.symm
      simp [h, h']
theorem dpAll_ints {K : PySem.W.Frag} {H : Hp} : ∀ c : List Int, DpAll K H (c.map V.int) (c.map .int)
  | [] => .nil
  | x :: c => .cons (.int x) (dpAll_ints c)
theorem dp_tup {K : PySem.W.Frag} {H : Hp} {a : Addr} {c : List Int} (h : Tp H a c) : Dp K H (.ref a) (tupD c) := .tup (SqT.of h) (dpAll_ints c)
theorem dpAll_rfs {K : PySem.W.Frag} {H : Hp} : ∀ {ks : List (Addr × List Int)}, Each H ks → DpAll K H (rfs ks) ((cls ks).map tupD)
  | [], _ => .nil
  | p :: ks, h => .cons (dp_tup (h p (List.mem_cons_self ..))) (dpAll_rfs fun q hq => h q (List.mem_cons_of_mem _ hq))
theorem dp_list {K : PySem.W.Frag} {H : Hp} {a : Addr} {ks : List (Addr × List Int)} (h : CsL H a ks) : Dp K H (.ref a) (.list ((cls ks).map tupD)) := .lst (SqL.of h.1) (dpAll_rfs h.2)

/-! ### products of great numbers -/
def CMulV (i j : Int) : Prop := i.natAbs.log2 + j.natAbs.log2 < 2000000
theorem CMulV.ok {i j : Int} (h : CMulV i j) : IntMulOk i j := by
  have b : ∀ x : Int, Builtin.Int.intBits x ≤ x.natAbs.log2 + 1 := fun x => by
    unfold Builtin.Int.intBits
    split <;> omega
  have h1 := b i
  have h2 := b j
  have h3 : i.natAbs.log2 + j.natAbs.log2 < 2000000 := h
  have e : bitsLine = 134217728 := by decide
  unfold IntMulOk
  intro z
  rw [Bool.and_eq_true] at z
  have z2 := z.2
  unfold Builtin.Int.intTooBig at z2
  have z3 := of_decide_eq_true z2
  rw [e] at z3
  omega
theorem op_mulV {X : Cx} : OpR X (binaryOp .Mult) (rI CMulV fun i j => .int (i * j)) := opI fun _ _ _ _ _ _ _ hc q => PyProof.Rows.mul_int q hc.ok
/-- the script's numbers -/
def Big (z : Int) : Prop := z.natAbs.log2 < 1100000
theorem log2_grow {k x y : Nat} (h : x.log2 < k) (hx : x ≠ 0) (hy : y ≤ 2 * x) : y.log2 < k + 1 := by
  by_cases h0 : y = 0
  · rw [h0, Nat.log2_zero]
    omega
  · rw [Nat.log2_lt h0]
    rw [Nat.log2_lt hx] at h
    rw [Nat.pow_succ]
    omega
theorem log2_small {x : Nat} (h : x < 512) : x.log2 < 9 := by
  by_cases h0 : x = 0
  · rw [h0, Nat.log2_zero]
    decide
  · rw [Nat.log2_lt h0]
    exact h
theorem big_of {z : Int} (h : Builtin.Int.intBits z ≤ 1048576) : z.natAbs.log2 < 1048577 := by
  unfold Builtin.Int.intBits at h
  split at h
  · rename_i h0
    have e : z = 0 := by simpa using h0
    rw [e]
    decide
  · omega
theorem big77 {z : Int} (h : z.natAbs.log2 < 1048577) : Big (z + 77) := by
  unfold Big
  by_cases hz : z.natAbs < 128
  · have := log2_small (show (z + 77).natAbs < 512 by omega)
    omega
  · have := log2_grow h (show z.natAbs ≠ 0 by omega) (show (z + 77).natAbs ≤ 2 * z.natAbs by omega)
    omega
theorem big0 {z : Int} (h : z.natAbs.log2 < 1048577) : Big z := by unfold Big; omega
theorem bmul {z : Int} (h : Big z) : CMulV z 48271 := by
  unfold CMulV
  have e : (48271 : Int).natAbs.log2 < 16 := by decide
  unfold Big at h
  omega
/-- sorted(xs), a list or a tuple of ints -/
def rSortB (K : PySem.W.Frag) : List V → Hp → VK → Prop := fun vs H Q => ∃ (a : Addr) (ns : List Int), vs = [V.ref a] ∧ (SqL K H a (ns.map V.int) ∨ SqT K H a (ns.map V.int)) ∧ ns.length < 64 ∧
  ∀ (ns' : List Int) (p : Addr), ns'.Perm ns → ns'.Pairwise (· ≤ ·) → H p = none → Q (.ref p) (upd H p (.lst (ns'.map V.int)))
theorem cr_sortB {X : Cx} : CallR X (.builtin "sorted") (rSortB X.K) := by
  intro pins s σ H vs us Q I r h
  obtain ⟨a, ns, e, hs, h64, q⟩ := h
  rcases hs with hs | hs
  · exact cr_sorted pins s σ H vs us Q I r ⟨a, ns, e, hs, h64, q⟩
  · exact cr_sortTI pins s σ H vs us Q I r ⟨a, ns, e, hs, h64, q⟩
theorem CsL.push {H : Hp} {D t : Addr} {gs : List (Addr × List Int)} {c : List Int} (h : CsL H D gs) (ht : Tp H t c) : CsL (upd H D (.lst (rfs gs ++ [V.ref t]))) D (gs ++ [(t, c)]) := by
  refine ⟨by rw [upd_same]; simp [rfs], fun m hm => ?_⟩
  rcases List.mem_append.mp hm with hm | hm
  · rw [Tp, upd_ne (tup_ne (h.2 m hm) h.1)]
    exact h.2 m hm
  · rw [List.mem_singleton.mp hm, Tp, upd_ne (tup_ne ht h.1)]
    exact ht
theorem rfs_len (ks : List (Addr × List Int)) : (rfs ks).length = ks.length := List.length_map ..
theorem cls_len (ks : List (Addr × List Int)) : (cls ks).length = ks.length := List.length_map ..
theorem cls_push (gs : List (Addr × List Int)) (t : Addr) (c : List Int) : cls (gs ++ [(t, c)]) = cls gs ++ [c] := by simp [cls]
theorem op_catAK {X : Cx} {K : PySem.W.Frag} (h : X.K = K) : OpR X (binaryOp .Add) (rCatA K) := by
  subst h
  exact op_catA
def rTupK (K : PySem.W.Frag) : List V → Hp → VK → Prop := fun xs H Q => ∃ p ys, xs = [.ref p] ∧ ((SqL K H p ys ∧ ∀ l, H l = none → Q (.ref l) (upd H l (.tup ys))) ∨ (SqT K H p ys ∧ Q (.ref p) H))
theorem call_tupK {X : Cx} {K : PySem.W.Frag} (h : X.K = K) : CallR X (.type "tuple") (rTupK K) := by
  subst h
  exact call_tuple_of
theorem cr_sortBK {X : Cx} {K : PySem.W.Frag} (h : X.K = K) : CallR X (.builtin "sorted") (rSortB K) := by
  subst h
  exact cr_sortB
def rIxLK (K : PySem.W.Frag) : V → V → Hp → VK → Prop := rIxL K
theorem ix_listK {X : Cx} {K : PySem.W.Frag} (h : X.K = K) : IxR X (rIxL K) := by
  subst h
  exact ix_list
end Rb
/-! ## RbSpec2 -/
namespace Rb
open PySem L2
/-! ### the promises of the law's own defs -/
def RowAt (H : Hp) (a : Addr) (c : List Int) : Prop := Ls H a c ∨ Tp H a c
theorem RowAt.same {H H' : Hp} {a : Addr} {c : List Int} (e : Same H H') (h : RowAt H a c) : RowAt H' a c := h.imp (fun q => e _ _ q) fun q => e _ _ q
def Rng (n : Nat) (c : List Int) : Prop := ∀ l ∈ c, l ≠ 0 ∧ -(n : Int) ≤ l ∧ l ≤ n
def Drawn (ds : List Int) : Prop := ∀ d ∈ ds, 0 ≤ d ∧ d < 4096
def spCell (K : PySem.W.Frag) : Sp := fun vs H Q _ => ∃ (a : Addr) (ns : List Int) (k : Nat), vs = [.ref a, .int k] ∧ SqL K H a (ns.map V.int) ∧ ns.length ≤ 63 ∧ Q (.int (ns.getD k 0)) H
def spDraws : Sp := fun vs H Q _ => ∃ (z : Int) (m : Nat), vs = [.int z, .int m] ∧ Big z ∧ m ≤ 100 ∧
  ∀ (H' : Hp) (q : Addr) (ds : List Int), Same H H' → Ls H' q ds → ds.length = m → Drawn ds → Q (.ref q) H'
def spClauseOf : Sp := fun vs H Q _ => ∃ (a : Addr) (ns : List Int) (n : Nat), vs = [.ref a] ∧ RowAt H a ns ∧ Rng n ns ∧ ns.length < 64 ∧
  (∀ H' : Hp, Same H H' → Q .non H') ∧ ∀ (H' : Hp) (q : Addr) (c : List Int), Same H H' → Tp H' q c → Clause n c → Q (.ref q) H'
def spRows : Sp := fun vs H Q _ => ∃ (d : Addr) (ds : List Int) (n many : Nat) (ni mi : Int), vs = [.ref d, .int 2, .int ni, .int mi, .int 3] ∧ ni = n ∧ mi = many ∧ Ls H d ds ∧ 0 < ds.length ∧ Drawn ds ∧ 1 ≤ n ∧ n ≤ 5 ∧ many ≤ 10 ∧
  ∀ (H' : Hp) (q : Addr) (rows : List (Addr × List Int)), Same H H' → H' q = some (.lst (rfs rows)) → (∀ p ∈ rows, RowAt H' p.1 p.2 ∧ Rng n p.2 ∧ p.2.length < 64) → rows.length = many → Q (.ref q) H'
def spOfRows : Sp := fun vs H Q _ => ∃ (r : Addr) (n : Nat) (ni : Int) (rows : List (Addr × List Int)), vs = [.int ni, .ref r] ∧ ni = n ∧ H r = some (.lst (rfs rows)) ∧ (∀ p ∈ rows, RowAt H p.1 p.2 ∧ Rng n p.2 ∧ p.2.length < 64) ∧ rows.length ≤ 25 ∧
  ∀ (H' : Hp) (q : Addr) (ks : List (Addr × List Int)), Same H H' → Fm H' q n ks → Clauses n (cls ks) → ks.length ≤ rows.length → Q (.ref q) H'
def spFormula : Sp := fun vs H Q _ => ∃ (z : Int) (most many : Nat), vs = [.int z, .int most, .int many] ∧ Big z ∧ 1 ≤ most ∧ most ≤ 5 ∧ many ≤ 10 ∧
  ∀ (H' : Hp) (q : Addr) (n : Nat) (ks : List (Addr × List Int)), Same H H' → Fm H' q n ks → n ≤ most → Clauses n (cls ks) → ks.length ≤ many → Q (.ref q) H'
def spAssignments : Sp := fun vs H Q _ => ∃ (n : Nat), vs = [.int n] ∧ n ≤ 5 ∧
  ∀ (H' : Hp) (q : Addr) (zs : List (Addr × List Int)), Same H H' → CsL H' q zs → (∀ T : List Int, T ∈ cls zs ↔ Total n T) → zs.length ≤ 32 → Q (.ref q) H'
def spMeets : Sp := fun vs H Q _ => ∃ (t c : Addr) (T cl : List Int), vs = [.ref t, .ref c] ∧ Tp H t T ∧ Tp H c cl ∧ cl.length ≤ 40 ∧ ∀ (H' : Hp) (b : Bool), Same H H' → (b = true ↔ Meets T cl) → Q (.bl b) H'
def spModels : Sp := fun vs H Q _ => ∃ (f : Addr) (n : Nat) (ks : List (Addr × List Int)), vs = [.ref f] ∧ Fm H f n ks ∧ n ≤ 5 ∧ Clauses n (cls ks) ∧ ks.length ≤ 25 ∧
  ∀ (H' : Hp) (q : Addr) (ms : List (Addr × List Int)), Same H H' → CsL H' q ms → (∀ T : List Int, T ∈ cls ms ↔ Model n (cls ks) T) → ms.length ≤ 32 → Q (.ref q) H'
def spHopeless : Sp := fun vs H Q _ => ∃ (z : Int), vs = [.int z, .int 4, .int 7] ∧ z.natAbs.log2 < 1048577 ∧
  ∀ (H' : Hp) (q : Addr) (n : Nat) (ks : List (Addr × List Int)), Same H H' → Fm H' q n ks → n ≤ 5 → Clauses n (cls ks) → ks.length ≤ 23 → Q (.ref q) H'
def spBare : Sp := fun vs H Q _ => ∃ (z : Int), vs = [.int z, .int 5, .int 10] ∧ Big z ∧
  ∀ (H' : Hp) (q : Addr) (n : Nat) (ks : List (Addr × List Int)), Same H H' → Fm H' q n ks → n ≤ 5 → Clauses n (cls ks) → ks.length ≤ 10 → Q (.ref q) H'
def spPushed : Sp := fun vs H Q _ => ∃ (f m c : Addr) (n : Nat) (ks ms : List (Addr × List Int)) (ns : List Int), vs = [.ref f, .ref m, .ref c] ∧ Fm H f n ks ∧ CsL H m ms ∧ Tp H c ns ∧ n ≤ 40 ∧ Clauses n (cls ks) ∧ Clauses n (cls ms) ∧ ks.length + ms.length ≤ 100 ∧ Lits n ns ∧
  Contra (cls ks ++ cls ms) ns ∧ ∀ H' : Hp, Same H H' → Q .non H'
def spOpposite : Sp := fun vs H Q _ => ∃ (a : Addr) (ns : List Int), vs = [.ref a] ∧ Tp H a ns ∧ ns.length < 64 ∧
  ∀ (H' : Hp) (q : Addr) (c : List Int), Same H H' → Tp H' q c → c.Perm (negs ns) → c.Pairwise (· ≤ ·) → Q (.ref q) H'
def spAtOnce : Sp := fun vs H Q _ => ∃ (f m c : Addr) (n : Nat) (ks ms : List (Addr × List Int)) (cl : List Int), vs = [.ref f, .ref m, .ref c] ∧ Fm H f n ks ∧ CsL H m ms ∧ Tp H c cl ∧ n ≤ 40 ∧ Clauses n (cls ks) ∧ Clauses n (cls ms) ∧ ks.length + ms.length ≤ 100 ∧ Clause n cl ∧
  Contra (cls ks ++ cls ms) (negs cl) ∧ ∀ H' : Hp, Same H H' → Q (.bl true) H'
def spGoodLog : Sp := fun vs H Q _ => ∃ (f t e : Addr) (n : Nat) (ks gs : List (Addr × List Int)), vs = [.ref f, .ref t] ∧ Fm H f n ks ∧ CsT H t (gs ++ [(e, [])]) ∧ n ≤ 40 ∧ Clauses n (cls ks) ∧ ks.length + gs.length ≤ 99 ∧ Learnt n (cls ks) (cls gs) ∧
  Contra (cls ks ++ cls gs) [] ∧ ∀ H' : Hp, Same H H' → Q (.bl true) H'
def spLaw (K : PySem.W.Frag) : Sp := fun vs H Q _ => ∃ (a : Addr) (ns : List Int), vs = [.ref a] ∧ SqL K H a (ns.map V.int) ∧ ns.length ≤ 63 ∧ (∀ z ∈ ns, Builtin.Int.intBits z ≤ 1048576) ∧ ∀ H' : Hp, Same H H' → Q (.bl true) H'
end Rb
/-! ## D1 -/
namespace Rb
open PySem L2
section
variable {P : Program} {w : World} {K : PySem.W.Frag} {mg : Str → Option Value} {base : Heap}
theorem scMadeClause : FnScope ["literals", "literal"] ["literals"] (C8.fnScope sMadeClause) := C8.fnScope_by (by decide +kernel)
theorem cal_made_clause {f : Addr} {fd : FuncData} (T : Txt mg) (F : C8.Def K mg "made_clause" sMadeClause f fd) (b : Binds K fd ["literals"] []) : C8.Cal P w K mg base 1 "made_clause" spMadeClause [] := by
  refine C8.cal0 F b .nil scMadeClause (fun vs H Q E h => ?_) (fun cdv A outer s H vs Q E hr h => ?_)
  · obtain ⟨a, ns, n, rfl, _⟩ := h
    rfl
  · obtain ⟨a, ns, n, rfl, ha, hc, hl, k⟩ := h
    refine ⟨_, pss_cons (ps_if (pt_truth (pe_lc (own := [("literal", 1)]) (g := gName 1) (by rfl) scMadeClause.nd (pi_tup (pv 0)) (blkOk_by (N := ["literals", "literal"]) (sc := C8.fnScope sMadeClause) (by decide +kernel)) (fun _ _ _ _ _ => pg_name (i := 1) scMadeClause.nd rfl (Or.inl rfl))
        (fun _ _ _ _ _ => pts_one (pt_cmpR (op_inK (K := K) rfl) (pe_un un_neg (pv 1)) (pv 0) rfl)) (fun _ _ _ _ _ => pv 1)) (by intro _; rfl)) (pss_one (ps_ret pe_non)) pss_nil)
      (pss_one (ps_ret (pe_callTy call_tuple_of (by rfl) T.tuple (by decide +kernel) (pa_cons (pe_callB (cr_sortedSet (by rfl)) (by rfl) T.sorted (by decide +kernel) (pa_cons (pe_callTy (cr_setI (by rfl)) (by rfl) T.set (by decide +kernel) (pa_cons (pv 0) pa_nil)) pa_nil)) pa_nil)))), ?_⟩
    refine ⟨_, rfl, a, rfl, ⟨_, SqT.of ha⟩, fun D hD => ?_⟩
    refine lc_tup (K := K) (a := a) (xs := ns.map V.int) (fun i H1 => H1 = upd H D (.lst [])) rfl (fun i H1 _ e => by rw [e]; exact SqT.of (by rw [upd_ne (ne_of_none ha hD)]; exact ha)) ?_ ?_
    · rintro i x H1 hi rfl
      obtain ⟨z, hz, rfl⟩ := int_at hi
      have hm : -z ∉ ns := hc.con z (List.mem_of_getElem? hz)
      refine ⟨rfl, _, rfl, z, rfl, _, rfl, a, ns.map V.int, rfl, .inr (SqT.of (by rw [upd_ne (ne_of_none ha hD)]; exact ha)), rfl, flat_ints ns, _, rfl, ?_⟩
      rw [inV_ints, decide_eq_false hm]
      exact iteF rfl
    · rintro H1 rfl
      refine ⟨_, .inl ⟨_, SqL.of upd_same, rfl⟩, iteF ?_⟩
      have h1 : upd H D (.lst []) a = some (.tup (ns.map V.int)) := by rw [upd_ne (ne_of_none ha hD)]; exact ha
      refine ⟨_, rfl, a, ns, rfl, SqT.of h1, by omega, fun s0 c hs hcn => ?_⟩
      refine ⟨s0, _, c, rfl, upd_same, by omega, fun ns' p hp hm hlen hpn => ?_⟩
      have e : ns' = ns := by
        refine List.Perm.eq_of_pairwise (le := (· < ·)) (fun x y _ _ h1 h2 => by omega) hp hc.asc ?_
        exact (List.perm_ext_iff_of_nodup (hp.imp fun h e => by omega) hc.nod).mpr fun x => (hm x).trans (by simp)
      subst e
      refine ⟨p, _, rfl, .inl ⟨SqL.of upd_same, fun q hq => ?_⟩⟩
      have sD : Same H (upd H D (.lst [])) := Same.new hD
      have s1 : Same H (upd (upd H D (.lst [])) s0 (SetO w s0 (fun j => decide (j ∈ ns')) c)) := Same.put (sD.free hs) sD
      have s2 := Same.put (o := .lst (ns'.map V.int)) (s1.free hpn) s1
      exact k _ q (Same.put (s2.free hq) s2) (s2.free hq) upd_same
end
end Rb
/-! ## D2 -/
namespace Rb
open PySem L2
section
variable {P : Program} {w : World} {K : PySem.W.Frag} {mg : Str → Option Value} {base : Heap}
theorem scCheck : FnScope ["n"] ["n"] (C8.fnScope sCheckCount) := C8.fnScope_by (by decide +kernel)
theorem cal_check_count {f : Addr} {fd : FuncData} (T : Txt mg) (F : C8.Def K mg "check_count" sCheckCount f fd) (b : Binds K fd ["n"] []) : C8.Cal P w K mg base 1 "check_count" spCheck [] := by
  refine C8.cal0 F b .nil scCheck (fun vs H Q E h => ?_) (fun cdv A outer s H vs Q E hr h => ?_)
  · obtain ⟨n, rfl, _⟩ := h
    rfl
  · obtain ⟨n, rfl, h0, h1, k⟩ := h
    obtain ⟨t, ht⟩ := T.most
    refine ⟨_, pss_one (ps_if (PW.pt (pw_or (pt_cmpR op_lt (pv 0) pe_int (nomark _)) (pw_or1 (pt_cmpR op_gt (pv 0) (pe_glob (v := .int 40) rfl ht ⟨_, rfl⟩) (nomark _))))) pss_never pss_nil), ?_⟩
    refine ⟨_, rfl, _, _, rfl, rfl, _, rfl, ?_⟩
    rw [decide_eq_false (show ¬ n < 0 by omega)]
    refine iteF ⟨_, rfl, _, _, rfl, rfl, _, rfl, ?_⟩
    rw [decide_eq_false (show ¬ (40 : Int) < n by omega)]
    exact iteF k
theorem scMadeFormula : FnScope ["n", "rows", "row", "literal", "clauses", "clause"] ["n", "rows"] (C8.fnScope sMadeFormula) := C8.fnScope_by (by decide +kernel)
theorem Clause.short {n : Nat} {c : List Int} (k : Clause n c) (h : n ≤ 40) : c.length < 64 := by
  have := lits_len n c k.lits
  omega
theorem cal_made_formula {f : Addr} {fd : FuncData} (T : Txt mg) (F : C8.Def K mg "made_formula" sMadeFormula f fd) (b : Binds K fd ["n", "rows"] [])
    (c1 : C8.Cal P w K mg base 1 "check_count" spCheck []) (c2 : C8.Cal P w K mg base 1 "made_clause" spMadeClause []) : C8.Cal P w K mg base 2 "made_formula" spMadeFormula [] := by
  refine C8.cal0 F b .nil scMadeFormula (fun vs H Q E h => ?_) (fun cdv A outer s H vs Q E hr h => ?_)
  · obtain ⟨r, n, ks, rfl, _⟩ := h
    rfl
  · obtain ⟨r, n, ks, rfl, hR, hn, hcs, hlen, k⟩ := h
    have nd := scMadeFormula.nd
    have hu := hr.units
    refine ⟨_, pss_cons (ps_expr (C8.pe_c c1 hr (by decide) rfl (pa_cons (pv 0) pa_nil)))
      (pss_cons (ps_for PassesOwn.never rfl (pi_list (pv 1)) (pg_name (i := 2) nd rfl (Or.inl rfl))
        (pss_one (ps_if (pt_not (pt_val (pe_callB (cr_all rfl) (by rfl) T.all (by decide +kernel) (pa_cons
          (pe_lc (own := [("literal", 3)]) (g := gName 3) (tt := tYes) (by rfl) nd (pi_tup (pv 2)) (blkOk_by (N := ["n", "rows", "row", "literal", "clauses", "clause"]) (sc := C8.fnScope sMadeFormula) (by decide +kernel)) (fun _ _ _ _ _ => pg_name (i := 3) nd rfl (Or.inl rfl))
            (fun _ _ _ _ _ => pts_nil) (fun _ _ _ _ _ => pe_chain op_lt op_le pe_int (pe_callB call_abs (by rfl) T.abs (by decide +kernel) (pa_cons (pv 3) pa_nil)) (pv 0))) pa_nil)))) pss_never pss_nil)))
      (pss_cons (ps_setLc (i := 4) (own := [("row", 2)]) (g := gName 2) (tt := tYes) (by rfl) nd rfl rfl (sw_true rfl rfl rfl (by decide +kernel)) (pi_list (pv 1)) (blkOk_by (N := ["n", "rows", "row", "literal", "clauses", "clause"]) (sc := C8.fnScope sMadeFormula) (by decide +kernel)) (fun _ _ _ _ _ => pg_name (i := 2) nd rfl (Or.inl rfl))
            (fun _ _ _ _ _ => pts_nil) (fun _ _ _ _ _ => C8.pe_c c2 hr (by decide) rfl (pa_cons (pv 2) pa_nil)))
      (pss_one (ps_ret (pe_tup (pa_cons (pv 0) (pa_cons (pe_callTy call_tuple_of (by rfl) T.tuple (by decide +kernel) (pa_cons (pe_callB (cr_sortSC (by rfl) hu) (by rfl) T.sorted (by decide +kernel) (pa_cons (pe_callTy (cr_setOfT (by rfl) hu) (by rfl) T.set (by decide +kernel) (pa_cons
        (pe_lc (own := [("clause", 5)]) (g := gName 5) (by rfl) nd (pi_list (pv 4)) (blkOk_by (N := ["n", "rows", "row", "literal", "clauses", "clause"]) (sc := C8.fnScope sMadeFormula) (by decide +kernel)) (fun _ _ _ _ _ => pg_name (i := 5) nd rfl (Or.inl rfl))
            (fun _ _ _ _ _ => pts_one (pt_cmpR op_notN (pv 5) pe_non (nomark _))) (fun _ _ _ _ _ => pv 5)) pa_nil)) pa_nil)) pa_nil)) pa_nil))))))), ?_⟩
    -- check_count(n)
    refine ⟨_, rfl, n, rfl, by omega, by omega, ?_⟩
    -- for row in rows
    refine ⟨_, rfl, r, rfl, ⟨_, SqL.of hR.1⟩, for_list (K := K) (a := r) (xs := rfs ks) (fun i σ H1 => ∃ v : Option V, σ = [some (.int n), some (.ref r), v, none, none, none] ∧ Same H H1)
      ⟨none, rfl, Same.refl H⟩ (fun i σ H1 _ ⟨_, _, e⟩ => SqL.of (e _ _ hR.1)) ?_ ?_⟩
    · rintro i x σ H1 hi ⟨v, rfl, s1⟩
      obtain ⟨p, hp, rfl⟩ := ref_at hi
      have hpm := List.mem_of_getElem? hp
      have hpt : H1 p.1 = some (.tup (p.2.map V.int)) := s1 _ _ (hR.2 p hpm)
      have hpc : Clause n p.2 := hcs p.2 (List.mem_map.mpr ⟨p, hpm, rfl⟩)
      refine ⟨_, rfl, p.1, rfl, ⟨_, SqT.of hpt⟩, fun D hD => ?_⟩
      refine lc_tup (K := K) (a := p.1) (xs := p.2.map V.int) (fun j H2 => H2 = upd H1 D (.lst (List.replicate j (V.bl true)))) rfl (fun j H2 _ e => by rw [e]; exact SqT.of (by rw [upd_ne (ne_of_none hpt hD)]; exact hpt)) ?_ ?_
      · rintro j x H2 hj rfl
        obtain ⟨z, hz, rfl⟩ := int_at hj
        have hr1 := hpc.rng z (List.mem_of_getElem? hz)
        have hjl : j < p.2.length := (List.getElem?_eq_some_iff.mp hz).1
        have hsh := hpc.short hn
        refine ⟨rfl, ⟨_, rfl, z, rfl, 0, _, rfl, rfl, _, rfl, ?_⟩⟩
        rw [decide_eq_true (show (0 : Int) < (if z < 0 then -z else z) by split <;> omega)]
        refine iteT ⟨_, rfl, _, _, rfl, rfl, ?_⟩
        dsimp only
        rw [decide_eq_true (show (if z < 0 then -z else z) ≤ (n : Int) by split <;> omega)]
        refine ⟨_, upd_same, small1000 (by rw [List.length_replicate]; omega), ?_⟩
        rw [upd_upd, List.replicate_succ']
      · rintro H2 rfl
        refine ⟨D, List.replicate (p.2.map V.int).length true, rfl, SqL.of (by rw [upd_same, List.map_replicate]), _, rfl, ?_⟩
        have e : (List.replicate (p.2.map V.int).length true).all id = true := List.all_eq_true.mpr fun b hb => List.eq_of_mem_replicate hb
        rw [e]
        exact iteF ⟨_, rfl, Same.put (s1.free hD) s1⟩
    · rintro σ H1 ⟨v, rfl, s1⟩
      -- clauses = [made_clause(row) for row in rows]
      refine ⟨_, rfl, r, rfl, ⟨_, SqL.of (s1 _ _ hR.1)⟩, fun D hD => ?_⟩
      refine lc_list (K := K) (a := r) (xs := rfs ks) (fun i H2 => ∃ ms : List (Addr × List Int), H2 D = some (.lst (rfs ms)) ∧ Each H2 ms ∧ cls ms = (cls ks).take i ∧ ms.length = i ∧ Same H H2)
        ⟨[], upd_same, (fun p hp => by cases hp), rfl, rfl, Same.put (s1.free hD) s1⟩ (fun i H2 _ ⟨_, _, _, _, _, e⟩ => SqL.of (e _ _ hR.1)) ?_ ?_
      · rintro i x H2 hi ⟨ms, hD2, hms, ems, lms, s2⟩
        obtain ⟨p, hp, rfl⟩ := ref_at hi
        have hpm := List.mem_of_getElem? hp
        have hpc : Clause n p.2 := hcs p.2 (List.mem_map.mpr ⟨p, hpm, rfl⟩)
        have hil : i < ks.length := (List.getElem?_eq_some_iff.mp hp).1
        refine ⟨rfl, ⟨_, rfl, p.1, p.2, n, rfl, s2 _ _ (hR.2 p hpm), hpc, hpc.short hn, fun H3 q s3 hq hqt => ?_⟩⟩
        have hD3 := s3 _ _ hD2
        have s23 := s2.trans s3
        refine ⟨rfs ms, hD3, small1000 (by rw [List.length_map]; omega), ms ++ [(q, p.2)], by rw [upd_same]; simp [rfs], fun m hm => ?_, by rw [take_snoc (show (cls ks)[i]? = some p.2 by rw [List.getElem?_map, hp]; rfl), ← ems]; simp [cls], by rw [List.length_append, lms]; rfl, Same.put (s1.free hD) s23⟩
        rcases List.mem_append.mp hm with hm | hm
        · have e := s3 _ _ (hms m hm)
          rw [Tp, upd_ne (ne_of e hD3 (by intro z; cases z))]
          exact e
        · rw [List.mem_singleton.mp hm, Tp, upd_ne (ne_of hqt hD3 (by intro z; cases z))]
          exact hqt
      · rintro H2 ⟨ms, hD2, hms, ems, lms, s2⟩
        rw [show (rfs ks).length = (cls ks).length by simp [rfs, cls], List.take_length] at ems
        -- [clause for clause in clauses if clause is not None]
        refine ⟨_, rfl, _, rfl, D, rfl, ⟨_, SqL.of hD2⟩, fun D2 hn2 => ?_⟩
        have hne : D ≠ D2 := ne_of_none hD2 hn2
        refine lc_list (K := K) (a := D) (xs := rfs ms) (fun i H3 => H3 = upd H2 D2 (.lst ((rfs ms).take i))) rfl (fun i H3 _ e => by rw [e]; exact SqL.of (by rw [upd_ne hne]; exact hD2)) ?_ ?_
        · rintro i x H3 hi rfl
          obtain ⟨p, hp, rfl⟩ := ref_at hi
          refine ⟨rfl, _, rfl, rfl, _, rfl, ?_⟩
          rw [decide_eq_false (show ¬ V.ref p.1 = V.non by intro z; cases z)]
          refine iteT ⟨_, rfl, _, upd_same, small1000 (by rw [List.length_take, List.length_map, lms]; have e9 : (rfs ks).length = ks.length := List.length_map ..; omega), ?_⟩
          rw [upd_upd, take_snoc hi]
        · rintro H3 rfl
          rw [List.take_length]
          have s3 : Same H (upd H2 D2 (.lst (rfs ms))) := Same.put (s2.free hn2) s2
          refine ⟨D2, ms, rfl, SqL.of upd_same, fun p hp => SqT.of ?_, by rw [lms, List.length_map]; exact hlen, fun a L ha hL1 hL2 => ?_⟩
          · have e := hms p hp
            rw [upd_ne (ne_of_none e hn2)]
            exact e
          · have t3 : ∀ p ∈ L, upd H2 D2 (.lst (rfs ms)) p.1 = some (.tup (p.2.map V.int)) := fun p hp => by
              have e := hms p (hL1 p hp)
              rw [upd_ne (ne_of_none e hn2)]
              exact e
            refine ⟨a, L, rfl, upd_same, fun p hp => SqT.of (by rw [upd_ne (ne_of_none (t3 p hp) ha)]; exact t3 p hp), fun L' p pm _ h64 hp => ?_⟩
            have s4 := Same.put (o := SetTO P w a L) (s3.free ha) s3
            have s5 := Same.put (o := .lst (L'.map fun q => V.ref q.1)) (s4.free hp) s4
            refine ⟨p, _, rfl, .inl ⟨SqL.of upd_same, fun q hq => ?_⟩⟩
            have s6 := Same.put (o := .tup (L'.map fun q => V.ref q.1)) (s5.free hq) s5
            refine ⟨by show 2 ≤ sizeLine; decide, fun t ht => ?_⟩
            refine k _ t L' (Same.put (s6.free ht) s6) ⟨q, upd_same, ?_, fun m hm => ?_⟩ fun c => ?_
            · have hqt : q ≠ t := ne_of_none upd_same ht
              rw [upd_ne hqt]
              exact upd_same
            · have h3 := t3 m (pm.mem_iff.mp hm)
              have h4 : upd (upd H2 D2 (.lst (rfs ms))) a (SetTO P w a L) m.1 = some (.tup (m.2.map V.int)) := by rw [upd_ne (ne_of_none h3 ha)]; exact h3
              exact Same.new ht _ _ (Same.new hq _ _ (Same.new hp _ _ h4))
            · rw [← ems]
              constructor
              · intro hc
                obtain ⟨m, hm, rfl⟩ := List.mem_map.mp hc
                exact List.mem_map.mpr ⟨m, hL1 m (pm.mem_iff.mp hm), rfl⟩
              · intro hc
                obtain ⟨m, hm, rfl⟩ := List.mem_map.mp hc
                exact (pm.map (·.2)).mem_iff.mpr (hL2 m hm)
end
end Rb
/-! ## D3 -/
namespace Rb
open PySem L2
section
variable {P : Program} {w : World} {K : PySem.W.Frag} {mg : Str → Option Value} {base : Heap}
abbrev nForced : List Str := ["formula", "cube", "found", "before", "clause", "literal", "rest"]
theorem scForced : FnScope nForced ["formula", "cube"] (C8.fnScope sForced) := C8.fnScope_by (by decide +kernel)
theorem cal_forced {f : Addr} {fd : FuncData} (T : Txt mg) (F : C8.Def K mg "forced" sForced f fd) (b : Binds K fd ["formula", "cube"] []) : C8.Cal P w K mg base 1 "forced" spForced [] := by
  refine C8.cal0 F b .nil scForced (fun vs H Q E h => ?_) (fun cdv A outer s H vs Q E hr h => ?_)
  · obtain ⟨f, c, n, ks, ns, rfl, _⟩ := h
    rfl
  · obtain ⟨f, c, n, ks, ns, rfl, hF, hC, hn, hns, hcs, kNo, kYes⟩ := h
    obtain ⟨cl, hf, hcl⟩ := hF
    have nd := scForced.nd
    refine ⟨_, pss_cons (ps_set (i := 2) nd rfl (Or.inr rfl) (pe_callTy call_list_of (by rfl) T.list (by decide +kernel) (pa_cons (pv 1) pa_nil)))
      (pss_cons (ps_set (i := 3) nd rfl (Or.inl rfl) (pe_un un_neg pe_int))
      (pss_cons (ps_while PassesOwn.never (pt_cmpR op_lt (pv 3) (pe_callB call_len_seq (by rfl) T.len PySem.boot_len (pa_cons (pv 2) pa_nil)) (nomark _))
        (pss_cons (ps_set (i := 3) nd rfl (Or.inl rfl) (pe_callB call_len_seq (by rfl) T.len PySem.boot_len (pa_cons (pv 2) pa_nil)))
        (pss_one (ps_for PassesOwn.never rfl (pi_tup (pe_ix ix_tup (pv 0) pe_int (fun _ _ => rfl))) (pg_name (i := 4) nd rfl (Or.inl rfl))
          (pss_cons (ps_setLc (i := 6) (own := [("literal", 5)]) (g := gName 5) (by rfl) nd rfl rfl (sw_true rfl rfl rfl (by decide +kernel)) (pi_tup (pv 4)) (blkOk_by (N := nForced) (sc := C8.fnScope sForced) (by decide +kernel)) (fun _ _ _ _ _ => pg_name (i := 5) nd rfl (Or.inl rfl))
            (fun _ _ _ _ _ => pts_one (pt_cmpR (op_notInK (K := K) rfl) (pe_un un_neg (pv 5)) (pv 2) rfl)) (fun _ _ _ _ _ => pv 5))
          (pss_cons (ps_if (pt_cmpR op_eq (pe_callB call_len_seq (by rfl) T.len PySem.boot_len (pa_cons (pv 6) pa_nil)) pe_int (nomark _)) (pss_one (ps_ret pe_non)) pss_nil)
          (pss_one (ps_if (PW.pt (pw_and (pt_cmpR op_eq (pe_callB call_len_seq (by rfl) T.len PySem.boot_len (pa_cons (pv 6) pa_nil)) pe_int (nomark _)) (pw_and1 (pt_cmpR op_notIn_seq (pe_ix ix_list (pv 6) pe_int (fun _ _ => rfl)) (pv 2) rfl))))
            (pss_one (ps_expr (pe_bm PySem.F.plainAttrs_list PySem.F.slot_list_append PySem.F.type_list_append mt_append (pv 2) (pa_cons (pe_ix ix_list (pv 6) pe_int (fun _ _ => rfl)) pa_nil)))) pss_nil))))))))
      (pss_one (ps_ret (pe_callTy call_tuple_of (by rfl) T.tuple (by decide +kernel) (pa_cons (pe_callB cr_sorted (by rfl) T.sorted (by decide +kernel) (pa_cons (pv 2) pa_nil)) pa_nil)))))), ?_⟩
    -- found = list(cube); before = -1
    refine ⟨_, rfl, c, _, rfl, .inr (SqT.of hC), fun d hd => ⟨1, rfl, ?_⟩⟩
    refine ⟨fun m σ H1 => ∃ (T : List Int) (b : Int) (v4 v6 : Option V), σ = [some (.ref f), some (.ref c), some (.ref d), some (.int b), v4, none, v6] ∧ Ls H1 d T ∧ Same H H1 ∧ Fd n (cls ks) ns T ∧ b ≤ T.length ∧ (b = T.length → Closed (cls ks) T) ∧
      m = 2 * (n - T.length) + (if b < T.length then 1 else 0), ⟨_, ns, -1, none, none, rfl, upd_same, Same.new hd, Fd.start hns, by omega, fun e => by omega, rfl⟩, ?_⟩
    rintro m σ H1 ⟨U, b, v4, v6, rfl, hU, s1, fd1, hb, hcl1, rfl⟩
    have hlU := fd1.len
    refine ⟨_, rfl, _, rfl, d, _, rfl, .inl (SqL.of hU), _, _, rfl, rfl, _, rfl, ?_⟩
    rw [List.length_map]
    refine ite2 (fun hlt => ?_) (fun hge => ?_)
    · have hlt : b < (U.length : Int) := of_decide_eq_true hlt
      rw [if_pos hlt]
      refine ⟨fun σ' H' => ∃ (T : List Int) (v4 v6 : Option V), σ' = [some (.ref f), some (.ref c), some (.ref d), some (.int U.length), v4, none, v6] ∧ Ls H' d T ∧ Same H H' ∧ Fd n (cls ks) ns T ∧ ((T = U ∧ Closed (cls ks) T) ∨ U.length < T.length), ?_, ?_⟩
      · rintro σ' H' ⟨T', v4', v6', rfl, hT', s', fd', alt⟩
        have hl' := fd'.len
        refine ⟨_, ?_, T', U.length, v4', v6', rfl, hT', s', fd', ?_, ?_, rfl⟩
        · rcases alt with ⟨e, _⟩ | e
          · rw [e, if_neg (by omega)]
            omega
          · split <;> omega
        · rcases alt with ⟨e, _⟩ | e
          · rw [e]; exact Int.le_refl _
          · omega
        · intro e
          rcases alt with ⟨_, e2⟩ | e2
          · exact e2
          · omega
      · -- before = len(found)
        refine ⟨_, rfl, d, _, rfl, .inl (SqL.of hU), ?_⟩
        rw [List.length_map]
        -- for clause in formula[1]
        have hf1 : ∀ H2, Same H H2 → H2 cl = some (.tup (rfs ks)) := fun H2 e => e _ _ hcl.1
        refine ⟨_, rfl, f, _, 1, .ref cl, rfl, rfl, SqT.of (s1 _ _ hf), atI_nat (j := 1) rfl, cl, rfl, ⟨_, SqT.of (hf1 _ s1)⟩, ?_⟩
        refine for_tup (K := K) (a := cl) (xs := rfs ks) (fun i σ' H' => ∃ (T : List Int) (v4 v6 : Option V), σ' = [some (.ref f), some (.ref c), some (.ref d), some (.int U.length), v4, none, v6] ∧ Ls H' d T ∧ Same H H' ∧ Fd n (cls ks) ns T ∧
          ((T = U ∧ Closed ((cls ks).take i) T) ∨ U.length < T.length)) ⟨U, v4, v6, rfl, hU, s1, fd1, .inl ⟨rfl, fun c hc => by cases hc⟩⟩ (fun i σ' H' _ ⟨_, _, _, _, _, e, _⟩ => SqT.of (hf1 _ e)) ?_ ?_
        · rintro i x σ' H2 hi ⟨T', v4', v6', rfl, hT', s2, fd2, alt⟩
          obtain ⟨p, hp, rfl⟩ := ref_at hi
          have hpm := List.mem_of_getElem? hp
          have hpt : H2 p.1 = some (.tup (p.2.map V.int)) := s2 _ _ (hcl.2 p hpm)
          have hpk : p.2 ∈ cls ks := List.mem_map.mpr ⟨p, hpm, rfl⟩
          have hpc : Clause n p.2 := hcs p.2 hpk
          have hps : p.2.length ≤ n := lits_len n p.2 hpc.lits
          have hpi : (cls ks)[i]? = some p.2 := by rw [List.getElem?_map, hp]; rfl
          have hl2 := fd2.len
          -- rest = [..]
          refine ⟨_, rfl, p.1, rfl, ⟨_, SqT.of hpt⟩, fun D hD => ?_⟩
          have hdD : d ≠ D := ne_of_none hT' hD
          refine lc_tup (K := K) (a := p.1) (xs := p.2.map V.int) (fun j H3 => H3 = upd H2 D (.lst ((rest (p.2.take j) T').map V.int))) rfl (fun j H3 _ e => by rw [e]; exact SqT.of (by rw [upd_ne (ne_of_none hpt hD)]; exact hpt)) ?_ ?_
          · rintro j x H3 hj rfl
            obtain ⟨z, hz, rfl⟩ := int_at hj
            have hT3 : upd H2 D (.lst ((rest (p.2.take j) T').map V.int)) d = some (.lst (T'.map V.int)) := by rw [upd_ne hdD]; exact hT'
            refine ⟨rfl, _, rfl, z, rfl, _, rfl, d, _, rfl, .inl (SqL.of hT3), rfl, flat_ints T', _, rfl, ?_⟩
            rw [if_pos rfl, inV_ints, take_snoc hz, rest_snoc]
            by_cases hm : -z ∈ T'
            · rw [decide_eq_true hm, if_pos hm]
              exact iteF rfl
            · rw [decide_eq_false hm, if_neg hm]
              have := rest_len (p.2.take j) T'
              have : (p.2.take j).length ≤ p.2.length := by rw [List.length_take]; omega
              refine iteT ⟨_, rfl, _, upd_same, small1000 (by rw [List.length_map]; omega), ?_⟩
              rw [upd_upd, List.map_append]
              rfl
          · rintro H3 rfl
            rw [List.length_map, List.take_length]
            have hT3 : upd H2 D (.lst ((rest p.2 T').map V.int)) d = some (.lst (T'.map V.int)) := by rw [upd_ne hdD]; exact hT'
            have hR3 : upd H2 D (.lst ((rest p.2 T').map V.int)) D = some (.lst ((rest p.2 T').map V.int)) := upd_same
            have s3 : Same H (upd H2 D (.lst ((rest p.2 T').map V.int))) := Same.put (s2.free hD) s2
            -- if len(rest) == 0
            refine ⟨_, rfl, D, _, rfl, .inl (SqL.of hR3), rfl, _, rfl, ?_⟩
            rw [dec_ii, List.length_map]
            refine ite2 (fun h0 => ?_) (fun h0 => ?_)
            · have h0 : ((rest p.2 T').length : Int) = 0 := of_decide_eq_true h0
              exact kNo _ s3 (fd2.contra hpk (List.eq_nil_of_length_eq_zero (by omega)))
            · have h0 : ¬ ((rest p.2 T').length : Int) = 0 := fun e => h0 (decide_eq_true e)
              have hne : rest p.2 T' ≠ [] := fun e => h0 (by rw [e]; rfl)
              -- if len(rest) == 1 and rest[0] not in found
              refine ⟨_, rfl, D, _, rfl, .inl (SqL.of hR3), rfl, _, rfl, ?_⟩
              rw [dec_ii, List.length_map]
              refine ite2 (fun h1 => ?_) (fun h1 => ?_)
              · have h1 : ((rest p.2 T').length : Int) = 1 := of_decide_eq_true h1
                obtain ⟨l, el⟩ : ∃ l, rest p.2 T' = [l] := List.length_eq_one_iff.mp (by omega)
                have hat : atI ((rest p.2 T').map V.int) 0 = some (V.int l) := by rw [el]; exact atI_nat (j := 0) rfl
                refine ⟨_, rfl, D, _, 0, .int l, rfl, rfl, SqL.of hR3, hat, _, rfl, d, _, rfl, .inl (SqL.of hT3), rfl, flat_ints T', _, rfl, ?_⟩
                rw [if_pos rfl, inV_ints]
                by_cases hm : l ∈ T'
                · rw [decide_eq_true hm]
                  refine iteF ⟨T', _, _, rfl, hT3, s3, fd2, alt.imp (fun ⟨e1, e2⟩ => ⟨e1, ?_⟩) id⟩
                  intro c hc
                  rw [take_snoc hpi] at hc
                  rcases List.mem_append.mp hc with hc | hc
                  · exact e2 c hc
                  · rw [List.mem_singleton.mp hc]
                    refine ⟨hne, fun k hk => ?_⟩
                    rw [el] at hk
                    rw [← (List.cons.inj hk).1]
                    exact hm
                · rw [decide_eq_false hm]
                  refine iteT ⟨_, rfl, .inl ⟨rfl, _, SqL.of hT3⟩, _, rfl, D, _, 0, .int l, rfl, rfl, SqL.of hR3, hat, d, _, _, rfl, rfl, hT3, small1000 (by rw [List.length_map]; omega), ?_⟩
                  refine ⟨T' ++ [l], _, _, rfl, by rw [Ls, upd_same, List.map_append]; rfl, Same.put hd s3, fd2.step hpk hpc el hm, .inr ?_⟩
                  rw [List.length_append, List.length_singleton]
                  rcases alt with ⟨e, _⟩ | e
                  · rw [e]; omega
                  · omega
              · have h1 : ¬ ((rest p.2 T').length : Int) = 1 := fun e => h1 (decide_eq_true e)
                refine iteF ⟨T', _, _, rfl, hT3, s3, fd2, alt.imp (fun ⟨e1, e2⟩ => ⟨e1, ?_⟩) id⟩
                intro c hc
                rw [take_snoc hpi] at hc
                rcases List.mem_append.mp hc with hc | hc
                · exact e2 c hc
                · rw [List.mem_singleton.mp hc]
                  refine ⟨hne, fun k hk => ?_⟩
                  rw [hk] at h1
                  exact absurd rfl h1
        · rintro σ' H2 ⟨T', v4', v6', rfl, hT', s2, fd2, alt⟩
          refine ⟨T', v4', v6', rfl, hT', s2, fd2, alt.imp (fun ⟨e1, e2⟩ => ⟨e1, ?_⟩) id⟩
          rw [show (rfs ks).length = (cls ks).length by simp [rfs, cls], List.take_length] at e2
          exact e2
    · have hge : ¬ b < (U.length : Int) := fun e => hge (decide_eq_true e)
      have hC1 := hcl1 (by omega)
      refine ⟨_, rfl, d, U, rfl, SqL.of hU, by omega, fun r p pr hsr hp => ?_⟩
      have s2 := Same.put (o := .lst (r.map V.int)) (s1.free hp) s1
      refine ⟨p, _, rfl, .inl ⟨SqL.of upd_same, fun q hq => ?_⟩⟩
      exact kYes _ q r (Same.put (s2.free hq) s2) upd_same (known_perm pr (fd1.known hC1)) (fd1.lits.perm pr) hsr
end
end Rb
/-! ## D4 -/
namespace Rb
open PySem L2
section
variable {P : Program} {w : World} {K : PySem.W.Frag} {mg : Str → Option Value} {base : Heap}
abbrev nFree : List Str := ["formula", "cube", "v"]
theorem scFree : FnScope nFree ["formula", "cube"] (C8.fnScope sFree) := C8.fnScope_by (by decide +kernel)
theorem cal_free {f : Addr} {fd : FuncData} (T : Txt mg) (F : C8.Def K mg "free_variables" sFree f fd) (b : Binds K fd ["formula", "cube"] []) : C8.Cal P w K mg base 1 "free_variables" spFree [] := by
  refine C8.cal0 F b .nil scFree (fun vs H Q E h => ?_) (fun cdv A outer s H vs Q E hr h => ?_)
  · obtain ⟨f, c, n, ks, r, rfl, _⟩ := h
    rfl
  · obtain ⟨f, c, n, ks, r, rfl, ⟨cl, hf, hcl⟩, hC, hn, k⟩ := h
    have nd := scFree.nd
    refine ⟨_, pss_one (ps_ret (pe_lc (own := [("v", 2)]) (g := gName 2) (by rfl) nd (pi_range2 (by rfl) T.range (pa_cons pe_int (pa_cons (pe_op op_add (pe_ix ix_tup (pv 0) pe_int (fun _ _ => rfl)) pe_int) pa_nil)))
      (blkOk_by (N := nFree) (sc := C8.fnScope sFree) (by decide +kernel)) (fun _ _ _ _ _ => pg_name (i := 2) nd rfl (Or.inl rfl))
      (fun _ _ _ _ _ => pts_one (PW.pt (pw_and (pt_cmpR (op_notInK (K := K) rfl) (pv 2) (pv 1) rfl) (pw_and1 (pt_cmpR (op_notInK (K := K) rfl) (pe_un un_neg (pv 2)) (pv 1) rfl))))) (fun _ _ _ _ _ => pv 2))), ?_⟩
    refine ⟨_, rfl, f, _, 0, .int n, rfl, rfl, SqT.of hf, atI_nat (j := 0) rfl, _, _, rfl, rfl, 1, n + 1, rfl, by omega, fun D hD => ?_⟩
    rw [show ((n : Int) + 1 - 1).toNat = n by omega]
    refine lc_range (lo := 1) (n := n) (fun i H1 => ∃ fs : List Int, H1 = upd H D (.lst (fs.map V.int)) ∧ fs.length ≤ i ∧ (∀ v ∈ fs, 1 ≤ v ∧ v ≤ i ∧ v ∉ r ∧ -v ∉ r) ∧ (∀ v : Int, 1 ≤ v → v ≤ i → v ∉ r → -v ∉ r → v ∈ fs))
      ⟨[], rfl, Nat.le_refl _, (fun v hv => by cases hv), fun v h1 h2 => by omega⟩ ?_ ?_
    · rintro i H1 hi ⟨fs, rfl, h1, h2, h3⟩
      have hC1 : upd H D (.lst (fs.map V.int)) c = some (.tup (r.map V.int)) := by rw [upd_ne (ne_of_none hC hD)]; exact hC
      refine ⟨rfl, _, rfl, _, rfl, c, _, rfl, .inr (SqT.of hC1), rfl, flat_ints r, _, rfl, ?_⟩
      rw [if_pos rfl, inV_ints]
      have hskip : ((1 + (i : Int)) ∈ r ∨ -(1 + (i : Int)) ∈ r) → ∃ gs : List Int, upd H D (.lst (fs.map V.int)) = upd H D (.lst (gs.map V.int)) ∧ gs.length ≤ i + 1 ∧ (∀ v ∈ gs, 1 ≤ v ∧ v ≤ ((i + 1 : Nat) : Int) ∧ v ∉ r ∧ -v ∉ r) ∧ (∀ v : Int, 1 ≤ v → v ≤ ((i + 1 : Nat) : Int) → v ∉ r → -v ∉ r → v ∈ gs) := fun hs =>
        ⟨fs, rfl, by omega, fun v hv => by have := h2 v hv; exact ⟨this.1, by omega, this.2.2⟩, fun v a1 a2 a3 a4 => by
          by_cases hv : v ≤ (i : Int)
          · exact h3 v a1 hv a3 a4
          · have e : v = 1 + (i : Int) := by omega
            subst e
            rcases hs with q | q
            · exact absurd q a3
            · exact absurd q a4⟩
      by_cases hm : (1 + (i : Int)) ∈ r
      · rw [decide_eq_true hm]
        exact iteF (iteF (hskip (.inl hm)))
      · rw [decide_eq_false hm]
        refine iteT ⟨_, rfl, _, rfl, _, rfl, c, _, rfl, .inr (SqT.of hC1), rfl, flat_ints r, _, rfl, ?_⟩
        rw [if_pos rfl, inV_ints]
        by_cases hm2 : -(1 + (i : Int)) ∈ r
        · rw [decide_eq_true hm2]
          exact iteF (hskip (.inr hm2))
        · rw [decide_eq_false hm2]
          refine iteT ⟨_, rfl, _, upd_same, small1000 (by rw [List.length_map]; omega), fs ++ [1 + (i : Int)], by rw [upd_upd, List.map_append]; rfl, by rw [List.length_append, List.length_singleton]; omega, fun v hv => ?_, fun v a1 a2 a3 a4 => ?_⟩
          · rcases List.mem_append.mp hv with hv | hv
            · have := h2 v hv
              exact ⟨this.1, by omega, this.2.2⟩
            · rw [List.mem_singleton.mp hv]
              exact ⟨by omega, by omega, hm, hm2⟩
          · by_cases hv : v ≤ (i : Int)
            · exact List.mem_append_left _ (h3 v a1 hv a3 a4)
            · exact List.mem_append_right _ (List.mem_singleton.mpr (by omega))
    · rintro H1 ⟨fs, rfl, h1, h2, h3⟩
      exact k _ D fs (Same.new hD) upd_same h2 h3
abbrev nNegated : List Str := ["clause", "literal"]
theorem scNegated : FnScope nNegated ["clause"] (C8.fnScope sNegated) := C8.fnScope_by (by decide +kernel)
theorem negs_take {ns : List Int} {i : Nat} {z : Int} (h : ns[i]? = some z) : negs (ns.take (i + 1)) = negs (ns.take i) ++ [-z] := by
  rw [take_snoc h]
  unfold negs
  rw [List.map_append]
  rfl
theorem negs_len (ns : List Int) : (negs ns).length = ns.length := List.length_map ..
theorem cal_negated {f : Addr} {fd : FuncData} (T : Txt mg) (F : C8.Def K mg "negated" sNegated f fd) (b : Binds K fd ["clause"] []) : C8.Cal P w K mg base 1 "negated" spNegated [] := by
  refine C8.cal0 F b .nil scNegated (fun vs H Q E h => ?_) (fun cdv A outer s H vs Q E hr h => ?_)
  · obtain ⟨a, ns, rfl, _⟩ := h
    rfl
  · obtain ⟨a, ns, rfl, ha, hl, k⟩ := h
    have nd := scNegated.nd
    refine ⟨_, pss_one (ps_ret (pe_callTy call_tuple_of (by rfl) T.tuple (by decide +kernel) (pa_cons (pe_callB cr_sorted (by rfl) T.sorted (by decide +kernel) (pa_cons
      (pe_lc (own := [("literal", 1)]) (g := gName 1) (tt := tYes) (by rfl) nd (pi_list (pv 0)) (blkOk_by (N := nNegated) (sc := C8.fnScope sNegated) (by decide +kernel)) (fun _ _ _ _ _ => pg_name (i := 1) nd rfl (Or.inl rfl))
      (fun _ _ _ _ _ => pts_nil) (fun _ _ _ _ _ => pe_un un_neg (pv 1))) pa_nil)) pa_nil))), ?_⟩
    refine ⟨_, rfl, a, rfl, ⟨_, SqL.of ha⟩, fun D hD => ?_⟩
    refine lc_list (K := K) (a := a) (xs := ns.map V.int) (fun i H1 => H1 = upd H D (.lst ((negs (ns.take i)).map V.int))) rfl (fun i H1 _ e => by rw [e]; exact SqL.of (by rw [upd_ne (ne_of_none ha hD)]; exact ha)) ?_ ?_
    · rintro i x H1 hi rfl
      obtain ⟨z, hz, rfl⟩ := int_at hi
      refine ⟨rfl, _, rfl, z, rfl, _, upd_same, small1000 (by rw [List.length_map, negs_len, List.length_take]; omega), ?_⟩
      rw [upd_upd, negs_take hz, List.map_append]
      rfl
    · rintro H1 rfl
      rw [List.length_map, List.take_length]
      refine ⟨D, _, rfl, SqL.of upd_same, by rw [negs_len]; exact hl, fun c p pc hsc hp => ?_⟩
      have s1 : Same H (upd H D (.lst ((negs ns).map V.int))) := Same.new hD
      have s2 := Same.put (o := .lst (c.map V.int)) (s1.free hp) s1
      refine ⟨p, _, rfl, .inl ⟨SqL.of upd_same, fun q hq => ?_⟩⟩
      exact k _ q c (Same.put (s2.free hq) s2) upd_same pc hsc
theorem scWith : FnScope ["formula", "clauses"] ["formula", "clauses"] (C8.fnScope sWith) := C8.fnScope_by (by decide +kernel)
theorem cal_with {f : Addr} {fd : FuncData} (T : Txt mg) (F : C8.Def K mg "with_clauses" sWith f fd) (b : Binds K fd ["formula", "clauses"] []) (c1 : C8.Cal P w K mg base 2 "made_formula" spMadeFormula []) : C8.Cal P w K mg base 3 "with_clauses" spWith [] := by
  refine C8.cal0 F b .nil scWith (fun vs H Q E h => ?_) (fun cdv A outer s H vs Q E hr h => ?_)
  · obtain ⟨f, l, n, ks, ls, rfl, _⟩ := h
    rfl
  · obtain ⟨f, l, n, ks, ls, rfl, ⟨cl, hf, hcl⟩, hL, hn, hks, hls, hlen, k⟩ := h
    refine ⟨_, pss_one (ps_ret (C8.pe_c c1 hr (by decide) rfl (pa_cons (pe_ix ix_tup (pv 0) pe_int (fun _ _ => rfl)) (pa_cons (pe_op op_cat (pe_callTy call_list_of (by rfl) T.list (by decide +kernel) (pa_cons (pe_ix ix_tup (pv 0) pe_int (fun _ _ => rfl)) pa_nil))
      (pe_callTy call_list_of (by rfl) T.list (by decide +kernel) (pa_cons (pv 1) pa_nil))) pa_nil)))), ?_⟩
    refine ⟨_, rfl, f, _, 0, .int n, rfl, rfl, SqT.of hf, atI_nat (j := 0) rfl, ?_⟩
    refine ⟨_, rfl, f, _, 1, .ref cl, rfl, rfl, SqT.of hf, atI_nat (j := 1) rfl, cl, _, rfl, .inr (SqT.of hcl.1), fun l1 h1 => ?_⟩
    have s1 : Same H (upd H l1 (.lst (rfs ks))) := Same.new h1
    refine ⟨_, rfl, l, _, rfl, .inl (SqL.of (s1 _ _ hL.1)), fun l2 h2 => ?_⟩
    have s2 := Same.put (o := .lst (rfs ls)) (s1.free h2) s1
    have h12 : l1 ≠ l2 := ne_of_none upd_same h2
    have e1 : upd (upd H l1 (.lst (rfs ks))) l2 (.lst (rfs ls)) l1 = some (.lst (rfs ks)) := by rw [upd_ne h12]; exact upd_same
    have hz : (rfs ks).length + (rfs ls).length ≤ 1000 := by
      have a1 : (rfs ks).length = ks.length := List.length_map ..
      have a2 : (rfs ls).length = ls.length := List.length_map ..
      omega
    refine ⟨l1, l2, _, _, rfl, rfl, e1, upd_same, Nat.le_of_lt (small1000 hz), fun p hp => ?_⟩
    have s3 := Same.put (o := .lst (rfs ks ++ rfs ls)) (s2.free hp) s2
    have e2 : ∀ c, c ∈ cls (ks ++ ls) ↔ c ∈ cls ks ++ cls ls := fun c => by simp [cls]
    refine ⟨p, n, ks ++ ls, rfl, ⟨by rw [upd_same]; simp [rfs], fun m hm => ?_⟩, hn, fun c hc => ?_, by rw [List.length_append]; exact hlen, fun H' q ks' s' hq he => ?_⟩
    · rcases List.mem_append.mp hm with hm | hm
      · exact s3 _ _ (hcl.2 m hm)
      · exact s3 _ _ (hL.2 m hm)
    · rcases List.mem_append.mp ((e2 c).mp hc) with hc | hc
      · exact hks c hc
      · exact hls c hc
    · exact k H' q ks' (s3.trans s') hq fun c => (he c).trans (e2 c)
end
end Rb
/-! ## D5 -/
namespace Rb
open PySem L2
section
variable {P : Program} {w : World} {K : PySem.W.Frag} {mg : Str → Option Value} {base : Heap} {C : Addr}
theorem scInit : FnScope ["self", "formula"] ["self", "formula"] (C8.fnScope sInit) := C8.fnScope_by (by decide +kernel)
theorem mak_learner {f : Addr} {fd : FuncData} (T : TxtC K C) (M : Mk K C f) (hm : mg "Learner" = some (.ref C)) (F : C8.Fun K "__init__" "Learner.__init__" sInit f fd) (b : Binds K fd ["self", "formula"] []) : C8.Mak P w K mg base 1 "Learner" C (spInit C) [] := by
  refine C8.mak0 M hm F b .nil scInit (fun vs H Q E h => ?_) (fun cdv A outer s H vs Q E hr h => ?_)
  · obtain ⟨p, f, dx, n, ks, rfl, _⟩ := h
    rfl
  · obtain ⟨p, f, dx, n, ks, rfl, hp, hf, k⟩ := h
    refine ⟨_, pss_cons (ps_fld (pv 0) (pv 1) rfl) (pss_cons (ps_fld (pv 0) (pe_lst pa_nil) rfl) (pss_one (ps_fld (pv 0) (pe_lst pa_nil) rfl))), ?_⟩
    refine ⟨_, rfl, _, rfl, p, C, dx, [], rfl, hp, T.cl, T.nF, (by show 0 < 1000; decide), ?_⟩
    refine ⟨Nat.zero_le _, fun l hl => ⟨_, rfl, p, C, dx, putF "_formula" (.ref f) [], rfl, ?_, T.cl, T.nL, (by show 1 < 1000; decide), ?_⟩⟩
    · exact (upd_ne (ne_of_none upd_same hl)).trans upd_same
    · have hpl : p ≠ l := ne_of_none upd_same hl
      refine ⟨Nat.zero_le _, fun a ha => ⟨_, rfl, p, C, dx, putF "_learned" (.ref l) (putF "_formula" (.ref f) []), rfl, ?_, T.cl, T.nA, (by rw [lf2]; show 2 < 1000; decide), ?_⟩⟩
      · exact (upd_ne (ne_of_none upd_same ha)).trans upd_same
      · have hpa : p ≠ a := ne_of_none upd_same ha
        have hl0 : H l = none := by rw [upd_ne hpl.symm] at hl; exact hl
        have hla : l ≠ a := fun e => by
          subst e
          rw [upd_ne hpl.symm, upd_same] at ha
          cases ha
        have ha0 : H a = none := by
          rw [upd_ne hpa.symm, upd_ne hla.symm, upd_ne hpa.symm] at ha
          exact ha
        have keep : ∀ b o, H b = some o → b ≠ p → upd (upd (upd (upd (upd H p (.ins C dx (putF "_formula" (.ref f) []))) l (.lst [])) p (.ins C dx (putF "_learned" (.ref l) (putF "_formula" (.ref f) [])))) a (.lst [])) p (.ins C dx (lf f l a)) b = some o := fun b o e hb => by
          rw [upd_ne hb, upd_ne (ne_of_none e ha0), upd_ne hb, upd_ne (ne_of_none e hl0), upd_ne hb]
          exact e
        obtain ⟨cl, h1, h2, h3⟩ := hf
        have np : ∀ {b : Addr} {xs : List V}, H b = some (.tup xs) → b ≠ p := fun e => ne_of e hp (by intro z; cases z)
        refine k _ l a ⟨⟨dx, upd_same⟩, ⟨cl, keep _ _ h1 (np h1), keep _ _ h2 (np h2), fun q hq => keep _ _ (h3 q hq) (np (h3 q hq))⟩, ⟨?_, fun q hq => by cases hq⟩, ?_, hla⟩ hl0 ha0 keep
        · rw [upd_ne hpl.symm, upd_ne hla, upd_ne hpl.symm, upd_same]
          rfl
        · rw [Ls, upd_ne hpa.symm, upd_same]
          rfl
theorem scSelf1 (st : Stmt) (h : C8.scC ["self"] ["self"] (C8.fnScope st) = true) : FnScope ["self"] ["self"] (C8.fnScope st) := C8.fnScope_by h
theorem scLearned : FnScope ["self"] ["self"] (C8.fnScope sLearned) := C8.fnScope_by (by decide +kernel)
theorem met_learned {f : Addr} {fd : FuncData} (T : Txt mg) (TC : TxtC K C) (me : Meth K C "learned" f) (F : C8.Fun K "learned" "Learner.learned" sLearned f fd) (b : Binds K fd ["self"] []) : C8.Met P w K mg base 1 C "learned" (spLearned C) [] := by
  refine C8.met0 TC.cl me F b scLearned (fun vs H Q E h => ?_) (fun cdv A outer s H vs Q E hr h => ?_)
  · obtain ⟨p, f, l, a, n, ks, ls, A, rfl, _⟩ := h
    rfl
  · obtain ⟨p, f, l, a, n, ks, ls, A, rfl, L, k⟩ := h
    obtain ⟨dx, hp⟩ := L.ob
    refine ⟨_, pss_one (ps_ret (pe_callTy call_list_of (by rfl) T.list (by decide +kernel) (pa_cons (pe_fld (pv 0) rfl) pa_nil))), ?_⟩
    refine ⟨_, rfl, p, C, dx, _, _, rfl, hp, TC.cl, TC.nL, lf_L _ _ _, l, _, rfl, .inl (SqL.of L.ld.1), fun q hq => ?_⟩
    exact k _ q (Same.new hq) ⟨upd_same, fun m hm => Same.new hq _ _ (L.ld.2 m hm)⟩
theorem scKnown : FnScope ["self", "literals"] ["self", "literals"] (C8.fnScope sKnown) := C8.fnScope_by (by decide +kernel)
theorem met_known {f : Addr} {fd : FuncData} (T : Txt mg) (TC : TxtC K C) (me : Meth K C "_known" f) (F : C8.Fun K "_known" "Learner._known" sKnown f fd) (b : Binds K fd ["self", "literals"] [])
    (cF : C8.Cal P w K mg base 1 "forced" spForced []) (cW : C8.Cal P w K mg base 3 "with_clauses" spWith []) : C8.Met P w K mg base 4 C "_known" (spKnown C) [] := by
  refine C8.met0 TC.cl me F b scKnown (fun vs H Q E h => ?_) (fun cdv A outer s H vs Q E hr h => ?_)
  · obtain ⟨p, f, l, a, m, n, ks, ls, A, ns, rfl, _⟩ := h
    rfl
  · obtain ⟨p, f, l, a, m, n, ks, ls, A, ns, rfl, L, ok, hm, hns, kNo, kYes⟩ := h
    obtain ⟨dx, hp⟩ := L.ob
    have hlen : ns.length ≤ n := lits_len n ns hns
    have hn := ok.n40
    refine ⟨_, pss_one (ps_ret (C8.pe_c cF hr (by decide) rfl (pa_cons (C8.pe_c cW hr (by decide) rfl (pa_cons (pe_fld (pv 0) rfl) (pa_cons (pe_fld (pv 0) rfl) pa_nil)))
      (pa_cons (pe_callTy call_tuple_of (by rfl) T.tuple (by decide +kernel) (pa_cons (pe_callB cr_sorted (by rfl) T.sorted (by decide +kernel) (pa_cons (pv 1) pa_nil)) pa_nil)) pa_nil)))), ?_⟩
    refine ⟨_, rfl, p, C, dx, _, _, rfl, hp, TC.cl, TC.nF, lf_F _ _ _, _, rfl, p, C, dx, _, _, rfl, hp, TC.cl, TC.nL, lf_L _ _ _, f, l, n, ks, ls, rfl, L.fm, L.ld, hn, ok.k, ok.l, ok.few, fun H1 g gs s1 hg eg => ?_⟩
    refine ⟨_, rfl, m, ns, rfl, SqL.of (s1 _ _ hm), by omega, fun ns' t pn hsn ht => ?_⟩
    have s2 := Same.put (o := .lst (ns'.map V.int)) (s1.free ht) s1
    refine ⟨t, _, rfl, .inl ⟨SqL.of upd_same, fun q hq => ?_⟩⟩
    have s3 := Same.put (o := .tup (ns'.map V.int)) (s2.free hq) s2
    refine ⟨g, q, n, gs, ns', rfl, Fm.same ((Same.new ht).trans (Same.new hq)) hg, upd_same, hn, hns.perm pn, (Clauses.app ok.k ok.l).mem eg, fun H' s' hc => ?_, fun H' u r s' hu hk hl hs => ?_⟩
    · exact kNo H' (s3.trans s') ((contra_iff eg fun l => pn.mem_iff).mp hc)
    · exact kYes H' u r (s3.trans s') hu (known_congr eg pn hk) hl hs
theorem scKnows : FnScope ["self"] ["self"] (C8.fnScope sKnows) := C8.fnScope_by (by decide +kernel)
theorem met_knows {f : Addr} {fd : FuncData} (TC : TxtC K C) (me : Meth K C "knows" f) (F : C8.Fun K "knows" "Learner.knows" sKnows f fd) (b : Binds K fd ["self"] [])
    (cK : C8.Met P w K mg base 4 C "_known" (spKnown C) []) : C8.Met P w K mg base 5 C "knows" (spKnows C) [] := by
  refine C8.met0 TC.cl me F b scKnows (fun vs H Q E h => ?_) (fun cdv A outer s H vs Q E hr h => ?_)
  · obtain ⟨p, f, l, a, n, ks, ls, A, rfl, _⟩ := h
    rfl
  · obtain ⟨p, f, l, a, n, ks, ls, A, rfl, L, ok, hA, kNo, kYes⟩ := h
    obtain ⟨dx, hp⟩ := L.ob
    refine ⟨_, pss_one (ps_ret (C8.pe_mt cK hr (by decide) (pv 0) (pa_cons (pe_fld (pv 0) rfl) pa_nil))), ?_⟩
    exact ⟨_, rfl, p, dx, _, rfl, hp, lf_no _ _ _ (by decide +kernel) (by decide +kernel) (by decide +kernel), _, rfl, p, C, dx, _, _, rfl, hp, TC.cl, TC.nA, lf_A _ _ _, p, f, l, a, a, n, ks, ls, A, A, rfl, L, ok, L.as, hA, kNo, kYes⟩
theorem scFinished : FnScope ["self"] ["self"] (C8.fnScope sFinished) := C8.fnScope_by (by decide +kernel)
theorem met_finished {f : Addr} {fd : FuncData} (TC : TxtC K C) (me : Meth K C "finished" f) (F : C8.Fun K "finished" "Learner.finished" sFinished f fd) (b : Binds K fd ["self"] [])
    (cK : C8.Met P w K mg base 4 C "_known" (spKnown C) []) : C8.Met P w K mg base 5 C "finished" (spFinished C) [] := by
  refine C8.met0 TC.cl me F b scFinished (fun vs H Q E h => ?_) (fun cdv A outer s H vs Q E hr h => ?_)
  · obtain ⟨p, f, l, a, n, ks, ls, A, rfl, _⟩ := h
    rfl
  · obtain ⟨p, f, l, a, n, ks, ls, A, rfl, L, ok, kYes, kNo⟩ := h
    obtain ⟨dx, hp⟩ := L.ob
    refine ⟨_, pss_one (ps_ret (pe_cmpR op_isN (C8.pe_mt cK hr (by decide) (pv 0) (pa_cons (pe_lst pa_nil) pa_nil)) pe_non (nomark _))), ?_⟩
    refine ⟨_, rfl, p, dx, _, rfl, hp, lf_no _ _ _ (by decide +kernel) (by decide +kernel) (by decide +kernel), Nat.zero_le _, fun m hm => ?_⟩
    have s1 : Same H (upd H m (.lst [])) := Same.new hm
    refine ⟨p, f, l, a, m, n, ks, ls, A, [], rfl, L.same s1, ok, upd_same, Lits.nil, fun H' s' hc => ⟨rfl, kYes H' (s1.trans s') hc⟩, fun H' q r s' hq hk hl hs => ⟨rfl, ?_⟩⟩
    rw [decide_eq_false (show ¬ V.ref q = V.non by intro z; cases z)]
    exact kNo H' (s1.trans s') fun hc => known_not hk hc
abbrev nNeeded : List Str := ["self", "kept", "literal", "other", "fewer"]
theorem scNeeded : FnScope nNeeded ["self"] (C8.fnScope sNeeded) := C8.fnScope_by (by decide +kernel)
def fewer (B : List Int) (l : Int) : List Int := B.filter fun x => !decide (x = l)
theorem fewer_snoc (B : List Int) (l z : Int) : fewer (B ++ [z]) l = if z = l then fewer B l else fewer B l ++ [z] := by
  unfold fewer
  rw [List.filter_append]
  by_cases h : z = l
  · rw [if_pos h, List.filter_cons_of_neg (by simp [h]), List.filter_nil, List.append_nil]
  · rw [if_neg h, List.filter_cons_of_pos (by simp [h]), List.filter_nil]
theorem met_needed {f : Addr} {fd : FuncData} (T : Txt mg) (TC : TxtC K C) (me : Meth K C "_needed" f) (F : C8.Fun K "_needed" "Learner._needed" sNeeded f fd) (b : Binds K fd ["self"] [])
    (cK : C8.Met P w K mg base 4 C "_known" (spKnown C) []) : C8.Met P w K mg base 5 C "_needed" (spNeeded C) [] := by
  refine C8.met0 TC.cl me F b scNeeded (fun vs H Q E h => ?_) (fun cdv A outer s H vs Q E hr h => ?_)
  · obtain ⟨p, f, l, a, n, ks, ls, A, rfl, _⟩ := h
    rfl
  · obtain ⟨p, f, l, a, n, ks, ls, A, rfl, L, ok, hA, hc, k⟩ := h
    obtain ⟨dx, hp⟩ := L.ob
    have nd := scNeeded.nd
    have hlA : A.length ≤ n := lits_len n A hA
    have hn := ok.n40
    refine ⟨_, pss_cons (ps_set (i := 1) nd rfl (Or.inl rfl) (pe_callTy call_list_of (by rfl) T.list (by decide +kernel) (pa_cons (pe_fld (pv 0) rfl) pa_nil)))
      (pss_cons (ps_for PassesOwn.never rfl (pi_list (pe_fld (pv 0) rfl)) (pg_name (i := 2) nd rfl (Or.inr rfl))
        (pss_cons (ps_setLc (i := 4) (own := [("other", 3)]) (g := gName 3) (by rfl) nd rfl rfl (sw_true rfl rfl rfl (by decide +kernel)) (pi_list (pv 1)) (blkOk_by (N := nNeeded) (sc := C8.fnScope sNeeded) (by decide +kernel)) (fun _ _ _ _ _ => pg_name (i := 3) nd rfl (Or.inl rfl))
            (fun _ _ _ _ _ => pts_one (pt_cmpR op_ne (pv 3) (pv 2) (nomark _))) (fun _ _ _ _ _ => pv 3))
        (pss_one (ps_if (pt_cmpR op_isN (C8.pe_mt cK hr (by decide) (pv 0) (pa_cons (pv 4) pa_nil)) pe_non (nomark _)) (pss_one (ps_set (i := 1) nd rfl (Or.inl rfl) (pv 4))) pss_nil))))
      (pss_one (ps_ret (pv 1)))), ?_⟩
    refine ⟨_, rfl, p, C, dx, _, _, rfl, hp, TC.cl, TC.nA, lf_A _ _ _, a, _, rfl, .inl (SqL.of L.as), fun q hq => ?_⟩
    have s0 : Same H (upd H q (.lst (A.map V.int))) := Same.new hq
    refine ⟨_, rfl, p, C, dx, _, _, rfl, s0 _ _ hp, TC.cl, TC.nA, lf_A _ _ _, a, rfl, ⟨_, SqL.of (s0 _ _ L.as)⟩, for_list (K := K) (a := a) (xs := A.map V.int) (fun i σ H1 => ∃ (q : Addr) (B : List Int) (v2 v4 : Option V), σ = [some (.ref p), some (.ref q), v2, none, v4] ∧ Same H H1 ∧ Ls H1 q B ∧ B.Sublist A ∧ Contra (cls ks ++ cls ls) B)
      ⟨q, A, none, none, rfl, s0, upd_same, List.Sublist.refl _, hc⟩ (fun i σ H1 _ ⟨_, _, _, _, _, e, _⟩ => SqL.of (e _ _ L.as)) ?_ ?_⟩
    · rintro i x σ H1 hi ⟨q1, B, v2, v4, rfl, s1, hB, hsub, hcB⟩
      obtain ⟨z, hz, rfl⟩ := int_at hi
      have hlB : B.length ≤ A.length := hsub.length_le
      refine ⟨_, rfl, q1, rfl, ⟨_, SqL.of hB⟩, fun D hD => ?_⟩
      have hqD : q1 ≠ D := ne_of_none hB hD
      refine lc_list (K := K) (a := q1) (xs := B.map V.int) (fun j H2 => H2 = upd H1 D (.lst ((fewer (B.take j) z).map V.int))) rfl (fun j H2 _ e => by rw [e]; exact SqL.of (by rw [upd_ne hqD]; exact hB)) ?_ ?_
      · rintro j x H2 hj rfl
        obtain ⟨y, hy, rfl⟩ := int_at hj
        refine ⟨rfl, _, rfl, _, rfl, rfl, _, rfl, ?_⟩
        rw [dec_ii, take_snoc hy, fewer_snoc]
        by_cases hyz : y = z
        · rw [decide_eq_true hyz, if_pos hyz]
          exact iteF rfl
        · rw [decide_eq_false hyz, if_neg hyz]
          have h1 : (fewer (B.take j) z).length ≤ (B.take j).length := List.length_filter_le _ _
          have h2 : (B.take j).length ≤ B.length := by rw [List.length_take]; omega
          refine iteT ⟨_, rfl, _, upd_same, small1000 (by rw [List.length_map]; omega), ?_⟩
          rw [upd_upd, List.map_append]
          rfl
      · rintro H2 rfl
        rw [List.length_map, List.take_length]
        have s2 : Same H (upd H1 D (.lst ((fewer B z).map V.int))) := Same.put (s1.free hD) s1
        have hsub2 : (fewer B z).Sublist A := List.filter_sublist.trans hsub
        refine ⟨_, rfl, p, dx, _, rfl, s2 _ _ hp, lf_no _ _ _ (by decide +kernel) (by decide +kernel) (by decide +kernel), _, rfl, p, f, l, a, D, n, ks, ls, A, fewer B z, rfl, L.same s2, ok, upd_same, hA.sub hsub2, fun H' s' hc' => ⟨rfl, _, rfl, ?_⟩, fun H' u r s' hu hk hl hs => ⟨rfl, _, rfl, ?_⟩⟩
        · rw [decide_eq_true (show V.non = V.non from rfl)]
          refine iteT ⟨_, rfl, D, fewer B z, _, _, rfl, s2.trans s', s' _ _ upd_same, hsub2, hc'⟩
        · rw [decide_eq_false (show ¬ V.ref u = V.non by intro z; cases z)]
          refine iteF ⟨q1, B, _, _, rfl, s2.trans s', s' _ _ ?_, hsub, hcB⟩
          rw [upd_ne hqD]
          exact hB
    · rintro σ H1 ⟨q1, B, v2, v4, rfl, s1, hB, hsub, hcB⟩
      exact ⟨_, rfl, k _ q1 B s1 hB hsub hcB⟩
end
end Rb
/-! ## D6 -/
namespace Rb
open PySem L2
section
variable {P : Program} {w : World} {K : PySem.W.Frag} {mg : Str → Option Value} {base : Heap} {C : Addr}
abbrev nAssume : List Str := ["self", "literal", "known"]
theorem scAssume : FnScope nAssume ["self", "literal"] (C8.fnScope sAssume) := C8.fnScope_by (by decide +kernel)
theorem map_dropLast_ints (B : List Int) : (B.map V.int).dropLast = B.dropLast.map V.int := by rw [List.map_dropLast]
theorem last_at {B : List Int} (h : 0 < B.length) : ∃ y, (B.map V.int)[(B.map V.int).length - 1]? = some (V.int y) := by
  have hl : (B.map V.int).length - 1 < B.length := by rw [List.length_map]; omega
  exact ⟨B[(B.map V.int).length - 1], by rw [List.getElem?_map, List.getElem?_eq_getElem hl]; rfl⟩
theorem met_assume {f : Addr} {fd : FuncData} (T : Txt mg) (TC : TxtC K C) (me : Meth K C "assume" f) (F : C8.Fun K "assume" "Learner.assume" sAssume f fd) (b : Binds K fd ["self", "literal"] [])
    (cFin : C8.Met P w K mg base 5 C "finished" (spFinished C) []) (cKs : C8.Met P w K mg base 5 C "knows" (spKnows C) []) (cNd : C8.Met P w K mg base 5 C "_needed" (spNeeded C) []) (cNg : C8.Cal P w K mg base 1 "negated" spNegated []) :
    C8.Met P w K mg base 6 C "assume" (spAssume C) [] := by
  refine C8.met0 TC.cl me F b scAssume (fun vs H Q E h => ?_) (fun cdv A outer s H vs Q E hr h => ?_)
  · obtain ⟨p, f, l, a, n, ks, ls, A, x, rfl, _⟩ := h
    rfl
  · obtain ⟨p, f, l, a, n, ks, ls, B, x, rfl, L, ok, few, hx, inv, k⟩ := h
    obtain ⟨dx, hp⟩ := L.ob
    have nd := scAssume.nd
    have hn := ok.n40
    refine ⟨_, pss_cons (ps_if (pt_val (C8.pe_mt0 cFin hr (by decide) (pv 0))) (pss_one (ps_ret pe_str)) pss_nil)
      (pss_cons (ps_set (i := 2) nd rfl (Or.inl rfl) (C8.pe_mt0 cKs hr (by decide) (pv 0)))
      (pss_cons (ps_if (PW.pt (pw_or (pt_cmpR op_in_seq (pv 1) (pv 2) rfl) (pw_or1 (pt_cmpR op_in_seq (pe_un un_neg (pv 1)) (pv 2) rfl)))) (pss_one (ps_ret (pe_ifExp (pt_cmpR op_in_seq (pv 1) (pv 2) rfl) pe_str pe_str))) pss_nil)
      (pss_cons (ps_expr (pe_bm PySem.F.plainAttrs_list PySem.F.slot_list_append PySem.F.type_list_append mt_append (pe_fld (pv 0) rfl) (pa_cons (pv 1) pa_nil)))
      (pss_cons (ps_if (pt_cmpR op_notN (C8.pe_mt0 cKs hr (by decide) (pv 0)) pe_non (nomark _)) (pss_one (ps_ret pe_str)) pss_nil)
      (pss_cons (ps_expr (pe_bm PySem.F.plainAttrs_list PySem.F.slot_list_append PySem.F.type_list_append mt_append (pe_fld (pv 0) rfl) (pa_cons (C8.pe_c cNg hr (by decide) rfl (pa_cons (C8.pe_mt0 cNd hr (by decide) (pv 0)) pa_nil)) pa_nil)))
      (pss_cons (ps_while PassesOwn.never (PW.pt (pw_and (pt_cmpR op_gt (pe_callB call_len_seq (by rfl) T.len PySem.boot_len (pa_cons (pe_fld (pv 0) rfl) pa_nil)) pe_int (nomark _)) (pw_and1 (pt_cmpR op_isN (C8.pe_mt0 cKs hr (by decide) (pv 0)) pe_non (nomark _)))))
        (pss_one (ps_expr (pe_bm0 PySem.F.plainAttrs_list PySem.F.slot_list_pop PySem.F.type_list_pop mt_pop (pe_fld (pv 0) rfl)))))
      (pss_one (ps_ret pe_str)))))))), ?_⟩
    -- if self.finished(): return 'finished'
    refine ⟨_, rfl, p, dx, _, rfl, hp, lf_no _ _ _ (by decide +kernel) (by decide +kernel) (by decide +kernel), p, f, l, a, n, ks, ls, B, rfl, L, ok, fun H1 s1 hc => ⟨_, rfl, iteT ?_⟩, fun H1 s1 hnc => ⟨_, rfl, iteF ?_⟩⟩
    · exact k H1 _ ls B (L.same s1) (But.of s1) (.inl ⟨rfl, rfl, .inl hc⟩)
    · have L1 := L.same s1
      obtain ⟨_, hp1⟩ := L1.ob
      -- known = self.knows()
      refine ⟨_, rfl, p, _, _, rfl, hp1, lf_no _ _ _ (by decide +kernel) (by decide +kernel) (by decide +kernel), p, f, l, a, n, ks, ls, B, rfl, L1, ok, inv.lits, fun H2 s2 hc => ?_, fun H2 q r s2 hq hk hlr hsr => ?_⟩
      · have e := inv.emp hc
        rw [e] at hc
        exact absurd hc hnc
      · have L2' := L1.same s2
        have s12 := s1.trans s2
        -- if literal in known or -literal in known
        refine ⟨_, rfl, _, rfl, q, _, rfl, .inr (SqT.of hq), rfl, flat_ints r, _, rfl, ?_⟩
        rw [if_neg Bool.false_ne_true, inV_ints]
        by_cases h1 : x ∈ r
        · rw [decide_eq_true h1]
          refine iteT (iteT ⟨_, rfl, _, rfl, q, _, rfl, .inr (SqT.of hq), rfl, flat_ints r, _, rfl, ?_⟩)
          rw [if_neg Bool.false_ne_true, inV_ints, decide_eq_true h1]
          exact iteT (k H2 _ ls B L2' (But.of s12) (.inl ⟨rfl, rfl, .inr ⟨r, hk, .inl h1⟩⟩))
        · rw [decide_eq_false h1]
          refine iteF ⟨_, rfl, _, rfl, _, rfl, q, _, rfl, .inr (SqT.of hq), rfl, flat_ints r, _, rfl, ?_⟩
          rw [if_neg Bool.false_ne_true, inV_ints]
          by_cases h2 : -x ∈ r
          · rw [decide_eq_true h2]
            refine iteT ⟨_, rfl, _, rfl, q, _, rfl, .inr (SqT.of hq), rfl, flat_ints r, _, rfl, ?_⟩
            rw [if_neg Bool.false_ne_true, inV_ints, decide_eq_false h1]
            exact iteF (k H2 _ ls B L2' (But.of s12) (.inl ⟨rfl, rfl, .inr ⟨r, hk, .inr h2⟩⟩))
          · rw [decide_eq_false h2]
            have hB2 : Lits n (B ++ [x]) := lits_known inv.lits hk h1 h2 hx
            have hlB : (B ++ [x]).length ≤ n := lits_len n _ hB2
            have hlB' : B.length + 1 ≤ n := by rw [List.length_append] at hlB; exact hlB
            obtain ⟨dx2, hp2⟩ := L2'.ob
            -- self._assumptions.append(literal)
            refine iteF ⟨_, rfl, p, C, _, _, _, rfl, hp2, TC.cl, TC.nA, lf_A _ _ _, .inl ⟨rfl, _, SqL.of L2'.as⟩, _, rfl, a, _, _, rfl, rfl, L2'.as, small1000 (by rw [List.length_map]; omega), ?_⟩
            have L3 : Lr C (upd H2 a (.lst (B.map V.int ++ [V.int x]))) p f l a n ks ls (B ++ [x]) := by
              have := L2'.setA (B ++ [x])
              rw [List.map_append] at this
              exact this
            have b3 : But l a H (upd H2 a (.lst (B.map V.int ++ [V.int x]))) := (But.of s12).trans But.a
            generalize upd H2 a (.lst (B.map V.int ++ [V.int x])) = H3 at L3 b3 ⊢
            obtain ⟨dx3, hp3⟩ := L3.ob
            -- if self.knows() is not None: return 'open'
            refine ⟨_, rfl, p, _, _, rfl, hp3, lf_no _ _ _ (by decide +kernel) (by decide +kernel) (by decide +kernel), p, f, l, a, n, ks, ls, B ++ [x], rfl, L3, ok, hB2, fun H4 s4 hc => ⟨rfl, _, rfl, ?_⟩, fun H4 q4 r4 s4 hq4 hk4 hl4 hs4 => ⟨rfl, _, rfl, ?_⟩⟩
            · rw [decide_eq_true (show V.non = V.non from rfl)]
              have L4 := L3.same s4
              have b4 := b3.trans (But.of s4)
              obtain ⟨dx4, hp4⟩ := L4.ob
              -- self._learned.append(negated(self._needed()))
              refine iteF ⟨_, rfl, p, C, _, _, _, rfl, hp4, TC.cl, TC.nL, lf_L _ _ _, .inl ⟨rfl, _, SqL.of L4.ld.1⟩, _, rfl, p, _, _, rfl, hp4, lf_no _ _ _ (by decide +kernel) (by decide +kernel) (by decide +kernel), p, f, l, a, n, ks, ls, B ++ [x], rfl, L4, ok, hB2, hc, fun H5 q5 U s5 hU sub hcU => ?_⟩
              have hlU : U.length ≤ n := Nat.le_trans sub.length_le hlB
              refine ⟨q5, U, rfl, hU, by omega, fun H6 t c s6 ht pc hsc => ?_⟩
              have L6 := (L4.same s5).same s6
              have b6 := (b4.trans (But.of s5)).trans (But.of s6)
              have hll : (rfs ls).length = ls.length := List.length_map ..
              refine ⟨l, rfs ls, .ref t, rfl, rfl, L6.ld.1, small1000 (by omega), ?_⟩
              have L7 := L6.addL ht
              have b7 : But l a H (upd H6 l (.lst (rfs ls ++ [V.ref t]))) := b6.trans But.l
              have ecl : cls (ls ++ [(t, c)]) = cls ls ++ [c] := by simp [cls]
              have hcl : Clause n c := negs_clause (hB2.sub sub) pc hsc
              have ok7 : Okl n ks (ls ++ [(t, c)]) := ⟨hn, ok.k, by rw [ecl]; exact ok.l.app (fun d hd => by rw [List.mem_singleton.mp hd]; exact hcl), by rw [List.length_append, List.length_singleton]; omega⟩
              generalize upd H6 l (.lst (rfs ls ++ [V.ref t])) = H7 at L7 b7 ⊢
              -- while ..: self._assumptions.pop()
              refine ⟨fun m σ H8 => ∃ (D : List Int) (j : Nat), σ = [some (.ref p), some (.int x), some (.ref q)] ∧ Lr C H8 p f l a n ks (ls ++ [(t, c)]) D ∧ But l a H H8 ∧ D = (B ++ [x]).take j ∧ m = D.length, ⟨_, B ++ [x], (B ++ [x]).length, rfl, L7, b7, by rw [List.take_length], rfl⟩, ?_⟩
              rintro m σ H8 ⟨D, j, rfl, L8, b8, eD, rfl⟩
              obtain ⟨dx8, hp8⟩ := L8.ob
              have fin : (Contra (cls ks ++ (cls ls ++ [c])) D → D = []) → ∀ H9, Same H8 H9 → Q (.str "conflict") H9 := fun he H9 s9 =>
                k H9 _ _ D (L8.same s9) (b8.trans (But.of s9)) (by rw [ecl]; exact step_conflict hB2 hk h1 h2 sub hcU pc hsc eD he)
              refine ⟨_, rfl, p, C, _, _, _, rfl, hp8, TC.cl, TC.nA, lf_A _ _ _, a, _, rfl, .inl (SqL.of L8.as), _, _, rfl, rfl, _, rfl, ?_⟩
              rw [List.length_map]
              by_cases hz : (0 : Int) < (D.length : Int)
              · rw [decide_eq_true hz]
                have hD : Lits n D := by rw [eD]; exact hB2.sub (List.take_sublist _ _)
                refine iteT ⟨_, rfl, p, _, _, rfl, hp8, lf_no _ _ _ (by decide +kernel) (by decide +kernel) (by decide +kernel), p, f, l, a, n, ks, _, D, rfl, L8, ok7, hD, fun H9 s9 hc9 => ⟨rfl, _, rfl, ?_⟩, fun H9 q9 r9 s9 hq9 hk9 hl9 hs9 => ⟨rfl, _, rfl, ?_⟩⟩
                · rw [decide_eq_true (show V.non = V.non from rfl)]
                  have L9 := L8.same s9
                  obtain ⟨dx9, hp9⟩ := L9.ob
                  obtain ⟨y, hy⟩ := last_at (B := D) (by omega)
                  refine iteT ⟨fun σ' H' => ∃ (D' : List Int) (j' : Nat), σ' = [some (.ref p), some (.int x), some (.ref q)] ∧ Lr C H' p f l a n ks (ls ++ [(t, c)]) D' ∧ But l a H H' ∧ D' = (B ++ [x]).take j' ∧ D'.length < D.length, fun σ' H' ⟨D', j', e1, e2, e3, e4, e5⟩ => ⟨_, e5, D', j', e1, e2, e3, e4, rfl⟩, ?_⟩
                  refine ⟨_, rfl, p, C, _, _, _, rfl, hp9, TC.cl, TC.nA, lf_A _ _ _, .inl ⟨rfl, _, SqL.of L9.as⟩, a, _, _, rfl, rfl, L9.as, hy, ?_⟩
                  refine ⟨D.dropLast, min (D.length - 1) j, rfl, by rw [map_dropLast_ints]; exact L9.setA _, (b8.trans (But.of s9)).trans But.a, ?_, by rw [List.length_dropLast]; omega⟩
                  rw [List.dropLast_eq_take]
                  conv => lhs; rw [eD]
                  rw [List.take_take, eD]
                · rw [decide_eq_false (show ¬ V.ref q9 = V.non by intro z; cases z)]
                  refine iteF (fin (fun hcD => ?_) H9 s9)
                  rw [ecl] at hk9
                  exact (known_not hk9 hcD).elim
              · rw [decide_eq_false hz]
                exact iteF (fin (fun _ => List.eq_nil_of_length_eq_zero (by omega)) H8 (Same.refl _))
            · rw [decide_eq_false (show ¬ V.ref q4 = V.non by intro z; cases z)]
              refine iteT (k H4 _ ls (B ++ [x]) (L3.same s4) (b3.trans (But.of s4)) (.inr (.inl ⟨rfl, rfl, fun hc => known_not hk4 hc, r, hk, h1, h2⟩)))
end
end Rb
/-! ## D7 -/
namespace Rb
open PySem L2
section
variable {P : Program} {w : World} {K : PySem.W.Frag} {mg : Str → Option Value} {base : Heap} {C : Addr}
abbrev nLearn : List Str := ["formula", "learner", "known", "free"]
theorem scLearn : FnScope nLearn ["formula"] (C8.fnScope sLearn) := C8.fnScope_by (by decide +kernel)
theorem pow5 {n : Nat} (h : n ≤ 5) : 2 ^ n ≤ 32 := Nat.pow_le_pow_right (n := 2) (by decide) h
theorem cal_learn {f : Addr} {fd : FuncData} (T : Txt mg) (F : C8.Def K mg "learn" sLearn f fd) (b : Binds K fd ["formula"] [])
    (cM : C8.Mak P w K mg base 1 "Learner" C (spInit C) []) (cFin : C8.Met P w K mg base 5 C "finished" (spFinished C) []) (cKs : C8.Met P w K mg base 5 C "knows" (spKnows C) [])
    (cFr : C8.Cal P w K mg base 1 "free_variables" spFree []) (cAs : C8.Met P w K mg base 6 C "assume" (spAssume C) []) (cLd : C8.Met P w K mg base 1 C "learned" (spLearned C) []) :
    C8.Cal P w K mg base 7 "learn" spLearn [] := by
  refine C8.cal0 F b .nil scLearn (fun vs H Q E h => ?_) (fun cdv A outer s H vs Q E hr h => ?_)
  · obtain ⟨f, n, ks, rfl, _⟩ := h
    rfl
  · obtain ⟨f, n, ks, rfl, hF, hn, hcs, hlen, k⟩ := h
    have kM : ∀ (H' : Hp) (q t : Addr) (r : List Int), Same H H' → H' q = some (.tup [.str "model", .ref t]) → Tp H' t r → Model n (cls ks) r → Q (.ref q) H' := fun H' q t r s' h1 h2 h3 => k H' q s' (.inl ⟨t, r, h1, h2, h3⟩)
    have kL : ∀ (H' : Hp) (q t e : Addr) (gs : List (Addr × List Int)), Same H H' → H' q = some (.tup [.str "log", .ref t]) → CsT H' t (gs ++ [(e, [])]) → Learnt n (cls ks) (cls gs) → Contra (cls ks ++ cls gs) [] → gs.length ≤ 32 → Q (.ref q) H' :=
      fun H' q t e gs s' h1 h2 h3 h4 h5 => k H' q s' (.inr ⟨t, e, gs, h1, h2, h3, h4, h5⟩)
    have nd := scLearn.nd
    have h32 := pow5 hn
    refine ⟨_, pss_cons (ps_set (i := 1) nd rfl (Or.inl rfl) (C8.pe_mk cM hr (by decide) rfl (pa_cons (pv 0) pa_nil)))
      (pss_cons (ps_while PassesOwn.never (pt_not (pt_val (C8.pe_mt0 cFin hr (by decide) (pv 1))))
        (pss_cons (ps_set (i := 2) nd rfl (Or.inl rfl) (C8.pe_mt0 cKs hr (by decide) (pv 1)))
        (pss_cons (ps_set (i := 3) nd rfl (Or.inl rfl) (C8.pe_c cFr hr (by decide) rfl (pa_cons (pv 0) (pa_cons (pv 2) pa_nil))))
        (pss_cons (ps_if (pt_cmpR op_eq (pe_callB call_len_seq (by rfl) T.len PySem.boot_len (pa_cons (pv 3) pa_nil)) pe_int (nomark _)) (pss_one (ps_ret (pe_tup (pa_cons pe_str (pa_cons (pv 2) pa_nil))))) pss_nil)
        (pss_one (ps_expr (C8.pe_mt cAs hr (by decide) (pv 1) (pa_cons (pe_un un_neg (pe_ix ix_list (pv 3) pe_int (fun _ _ => rfl))) pa_nil))))))))
      (pss_one (ps_ret (pe_tup (pa_cons pe_str (pa_cons (pe_tup (StX.pa_star (C8.pe_mt0 cLd hr (by decide) (pv 1)) (pa_cons (pe_tup pa_nil) pa_nil))) pa_nil)))))), ?_⟩
    -- learner = Learner(formula)
    refine ⟨_, rfl, fun p dx np ndx nex => ?_⟩
    refine ⟨p, f, dx, n, ks, rfl, upd_same, Fm.same (fun b o e => by rw [upd_ne (ne_of_none e np), upd_ne (ne_of_none e ndx)]; exact e) hF, fun H1 l a L1 hl ha keep => ⟨rfl, ?_⟩⟩
    have s1 : Same H H1 := Same.made np ndx keep
    have fr : ∀ {b : Addr}, (upd (upd H dx (.own p)) p (.ins C dx [])) b = none → H b = none := fun {b} e => by
      by_cases h1 : b = p
      · rw [h1]; exact np
      · by_cases h2 : b = dx
        · rw [h2]; exact ndx
        · rw [upd_ne h1, upd_ne h2] at e
          exact e
    have hl0 := fr hl
    have ha0 := fr ha
    -- while not learner.finished()
    refine ⟨fun m σ H' => ∃ (ls : List (Addr × List Int)) (B : List Int) (v2 v3 : Option V), σ = [some (.ref f), some (.ref p), v2, v3] ∧ Lr C H' p f l a n ks ls B ∧ Same H H' ∧ LInv n (cls ks) (cls ls) B ∧ (∀ y ∈ B, y < 0) ∧ ls.length + room n (cls ls) ≤ 2 ^ n ∧ m = 6 * room n (cls ls) + (n - B.length),
      ⟨_, [], [], none, none, rfl, L1, s1, ⟨Lits.nil, Learnt.nil, fun _ => rfl⟩, (fun y hy => by cases hy), by rw [show cls [] = [] from rfl, room_nil]; simp, rfl⟩, ?_⟩
    rintro m σ H2 ⟨ls, B, v2, v3, rfl, L2, s2, inv, neg, hroom, rfl⟩
    obtain ⟨dx2, hp2⟩ := L2.ob
    have ok : Okl n ks ls := ⟨by omega, hcs, inv.lea.ok, by omega⟩
    refine ⟨_, rfl, p, _, _, rfl, hp2, lf_no _ _ _ (by decide +kernel) (by decide +kernel) (by decide +kernel), p, f, l, a, n, ks, ls, B, rfl, L2, ok, fun H3 s3 hc => ⟨_, rfl, ?_⟩, fun H3 s3 hnc => ⟨_, rfl, ?_⟩⟩
    · -- return ("log", (*learner.learned(), ()))
      have L3 := L2.same s3
      have s13 := s2.trans s3
      obtain ⟨dx3, hp3⟩ := L3.ob
      refine iteF ?_
      refine ⟨_, rfl, p, _, _, rfl, hp3, lf_no _ _ _ (by decide +kernel) (by decide +kernel) (by decide +kernel), p, f, l, a, n, ks, ls, B, rfl, L3, fun H4 q s4 hq => ?_⟩
      refine ⟨q, rfs ls, rfl, .inr (SqL.of hq.1), Nat.zero_le _, fun e he => ?_⟩
      have hll : (rfs ls).length = ls.length := List.length_map ..
      have s14 := s13.trans s4
      have s15 := Same.put (o := .tup []) (s14.free he) s14
      refine ⟨Nat.le_of_lt (small1000 (by rw [List.length_append, hll]; show ls.length + 1 ≤ 1000; omega)), fun t ht => ?_⟩
      have s16 := Same.put (o := .tup (rfs ls ++ [V.ref e])) (s15.free ht) s15
      refine ⟨(by show 2 ≤ sizeLine; decide), fun u hu => ?_⟩
      refine kL _ u t e ls (Same.put (s16.free hu) s16) upd_same ⟨?_, fun m hm => ?_⟩ inv.lea hc (by omega)
      · rw [upd_ne (ne_of_none upd_same hu), upd_same]
        simp [rfs]
      · refine Same.new hu _ _ (Same.new ht _ _ ?_)
        rcases List.mem_append.mp hm with hm | hm
        · exact Same.new he _ _ (hq.2 m hm)
        · rw [List.mem_singleton.mp hm]
          exact upd_same
    · have L3 := L2.same s3
      have s13 := s2.trans s3
      obtain ⟨dx3, hp3⟩ := L3.ob
      refine iteT ⟨fun σ' H' => ∃ (ls' : List (Addr × List Int)) (B' : List Int) (v2 v3 : Option V), σ' = [some (.ref f), some (.ref p), v2, v3] ∧ Lr C H' p f l a n ks ls' B' ∧ Same H H' ∧ LInv n (cls ks) (cls ls') B' ∧ (∀ y ∈ B', y < 0) ∧ ls'.length + room n (cls ls') ≤ 2 ^ n ∧
        6 * room n (cls ls') + (n - B'.length) < 6 * room n (cls ls) + (n - B.length), fun σ' H' ⟨ls', B', v2, v3, e1, e2, e3, e4, e5, e6, e7⟩ => ⟨_, e7, ls', B', v2, v3, e1, e2, e3, e4, e5, e6, rfl⟩, ?_⟩
      -- known = learner.knows()
      refine ⟨_, rfl, p, _, _, rfl, hp3, lf_no _ _ _ (by decide +kernel) (by decide +kernel) (by decide +kernel), p, f, l, a, n, ks, ls, B, rfl, L3, ok, inv.lits, fun H4 s4 hc => ?_, fun H4 q r s4 hq hk hlr hsr => ?_⟩
      · have e := inv.emp hc
        rw [e] at hc
        exact absurd hc hnc
      · have L4 := L3.same s4
        have s14 := s13.trans s4
        -- free = free_variables(formula, known)
        refine ⟨_, rfl, _, rfl, f, q, n, ks, r, rfl, L4.fm, hq, by omega, fun H5 g fs s5 hg hf1 hf2 => ?_⟩
        have L5 := L4.same s5
        have s15 := s14.trans s5
        refine ⟨_, rfl, g, _, rfl, .inl (SqL.of hg), rfl, _, rfl, ?_⟩
        rw [dec_ii, List.length_map]
        refine ite2 (fun h0 => ?_) (fun h0 => ?_)
        · have h0 : (fs.length : Int) = 0 := of_decide_eq_true h0
          have e0 : fs = [] := List.eq_nil_of_length_eq_zero (by omega)
          refine ⟨_, rfl, (by show 2 ≤ sizeLine; decide), fun u hu => ?_⟩
          have mo : Model n (cls ks ++ cls ls) r := known_model hk hlr (ok.k.app ok.l) hsr fun v h1 h2 => by
            by_cases hv : v ∈ r
            · exact .inl hv
            · by_cases hv2 : -v ∈ r
              · exact .inr hv2
              · have := hf2 v h1 h2 hv hv2
                rw [e0] at this
                cases this
          exact kM _ u q r (Same.put (s15.free hu) s15) upd_same (Same.new hu _ _ (s5 _ _ hq)) ⟨mo.1, fun c hc => mo.2 c (List.mem_append_left _ hc)⟩
        · have h0 : ¬ (fs.length : Int) = 0 := fun e => h0 (decide_eq_true e)
          obtain ⟨v, ft, efs⟩ : ∃ v ft, fs = v :: ft := by
            cases fs with
            | nil => exact absurd rfl h0
            | cons v ft => exact ⟨v, ft, rfl⟩
          subst efs
          have hv := hf1 v (List.mem_cons_self ..)
          obtain ⟨dx5, hp5⟩ := L5.ob
          have x1 : -v ∉ r := hv.2.2.2
          have x2 : - -v ∉ r := by rw [Int.neg_neg]; exact hv.2.2.1
          refine ⟨_, rfl, p, _, _, rfl, hp5, lf_no _ _ _ (by decide +kernel) (by decide +kernel) (by decide +kernel), _, rfl, g, _, 0, .int v, rfl, rfl, SqL.of hg, atI_nat (j := 0) rfl, v, rfl, p, f, l, a, n, ks, ls, B, -v, rfl, L5, ok, by omega, by omega, inv, fun H6 z ls' B' L6 b6 st => ?_⟩
          have inv' : LInv n (cls ks) (cls ls') B' := st.inv inv (by omega)
          have s16 : Same H H6 := But.same s15 b6 hl0 ha0
          have hlB := lits_len n B inv.lits
          have hlB' := lits_len n B' inv'.lits
          rcases st with ⟨e1, e2, e3⟩ | ⟨e1, e2, e3, r', hk', _⟩ | ⟨c, j, r', e1, e2, hk', _, _, hc1, hc2, hc3, hc4, hc5⟩
          · rcases e3 with e3 | ⟨r', hk', hx⟩
            · exact absurd e3 hnc
            · rcases hx with hx | hx
              · exact absurd ((known_same hk' hk _).mp hx) x1
              · exact absurd ((known_same hk' hk _).mp hx) x2
          · have e1' : ls'.length = ls.length := by
              have := congrArg List.length e1
              simpa [cls] using this
            refine ⟨ls', B', _, _, rfl, L6, s16, inv', fun y hy => ?_, by rw [e1, e1']; exact hroom, ?_⟩
            · rw [e2] at hy
              rcases List.mem_append.mp hy with hy | hy
              · exact neg y hy
              · rw [List.mem_singleton.mp hy]; omega
            · rw [e1]
              have e4 : B'.length = B.length + 1 := by rw [e2, List.length_append]; rfl
              omega
          · have hcn : c ∉ cls ls := fun q => hc3 (List.mem_append_right _ q)
            have e1' : ls'.length = ls.length + 1 := by
              have := congrArg List.length e1
              simpa [cls] using this
            have dr : room n (cls ls') + 1 ≤ room n (cls ls) := by
              rw [e1]
              refine room_snoc hcn hc1.asc fun y hy => ⟨?_, (hc1.rng y hy).2.2⟩
              have h1 := hc4 y hy
              rcases List.mem_append.mp h1 with h1 | h1
              · have := neg _ h1
                omega
              · have := List.mem_singleton.mp h1
                omega
            refine ⟨ls', B', _, _, rfl, L6, s16, inv', fun y hy => ?_, by omega, by omega⟩
            rw [e2] at hy
            rcases List.mem_append.mp (List.mem_of_mem_take hy) with hy | hy
            · exact neg y hy
            · rw [List.mem_singleton.mp hy]; omega
end
end Rb
/-! ## D8 -/
namespace Rb
open PySem L2
section
variable {P : Program} {w : World} {K : PySem.W.Frag} {mg : Str → Option Value} {base : Heap}
abbrev nCell : List Str := ["_law_script", "_law_k"]
theorem scCell : FnScope nCell ["_law_script", "_law_k"] (C8.fnScope sCell) := C8.fnScope_by (by decide +kernel)
theorem cal_cell {f : Addr} {fd : FuncData} (T : Txt mg) (F : C8.Def K mg "_law_cell" sCell f fd) (b : Binds K fd ["_law_script", "_law_k"] []) : C8.Cal P w K mg base 1 "_law_cell" (spCell K) [] := by
  refine C8.cal0 F b .nil scCell (fun vs H Q E h => ?_) (fun cdv A outer s H vs Q E hr h => ?_)
  · obtain ⟨a, ns, k, rfl, _⟩ := h
    rfl
  · obtain ⟨a, ns, j, rfl, hS, hl, k⟩ := h
    refine ⟨_, pss_cons (ps_if (pt_cmpR op_lt (pv 1) (pe_callB call_len_seq (by rfl) T.len PySem.boot_len (pa_cons (pv 0) pa_nil)) (nomark _)) (pss_one (ps_ret (pe_ix ix_list (pv 0) (pv 1) (fun _ _ => rfl)))) pss_nil) (pss_one (ps_ret pe_int)), ?_⟩
    refine ⟨_, rfl, _, rfl, a, _, rfl, .inl hS, _, _, rfl, rfl, _, rfl, ?_⟩
    rw [List.length_map]
    refine ite2 (fun h => ?_) (fun h => ?_)
    · have h : (j : Int) < (ns.length : Int) := of_decide_eq_true h
      have hj : j < ns.length := by omega
      have e : ns.getD j 0 = ns[j] := by rw [List.getD_eq_getElem?_getD, List.getElem?_eq_getElem hj]; rfl
      rw [e] at k
      exact ⟨_, rfl, _, rfl, a, _, j, .int ns[j], rfl, rfl, hS, atI_nat (by rw [List.getElem?_map, List.getElem?_eq_getElem hj]; rfl), k⟩
    · have h : ¬ (j : Int) < (ns.length : Int) := fun e => h (decide_eq_true e)
      have e : ns.getD j 0 = 0 := by rw [List.getD_eq_getElem?_getD, List.getElem?_eq_none (by omega)]; rfl
      rw [e] at k
      exact k
abbrev nDraws : List Str := ["_law_cell_here", "_law_count", "_law_rows_here", "_law_left", "_law_k", "_law_mixed"]
theorem scDraws : FnScope nDraws ["_law_cell_here", "_law_count"] (C8.fnScope sDraws) := C8.fnScope_by (by decide +kernel)
theorem mulc {i j : Int} (h : -(2 ^ 64) < i) (h' : i < 2 ^ 64) : CMul i j := .inl ⟨h, h'⟩
theorem mod_b (a : Int) {m : Int} (h : 0 < m) : 0 ≤ a % m ∧ a % m < m := ⟨Int.emod_nonneg a (by omega), Int.emod_lt_of_pos a h⟩
theorem Drawn.snoc {ds : List Int} {d : Int} (h : Drawn ds) (h1 : 0 ≤ d ∧ d < 4096) : Drawn (ds ++ [d]) := fun x hx => by
  rcases List.mem_append.mp hx with q | q
  · exact h x q
  · rw [List.mem_singleton.mp q]
    exact h1
theorem cal_draws {f : Addr} {fd : FuncData} (T : Txt mg) (F : C8.Def K mg "_law_draws" sDraws f fd) (b : Binds K fd ["_law_cell_here", "_law_count"] []) : C8.Cal P w K mg base 1 "_law_draws" spDraws [] := by
  refine C8.cal0 F b .nil scDraws (fun vs H Q E h => ?_) (fun cdv A outer s H vs Q E hr h => ?_)
  · obtain ⟨z, m, rfl, _⟩ := h
    rfl
  · obtain ⟨z, m, rfl, hz, hm, k⟩ := h
    have nd := scDraws.nd
    refine ⟨_, pss_cons (ps_set (i := 2) nd rfl (Or.inl rfl) (pe_lst pa_nil))
      (pss_cons (ps_set (i := 3) nd rfl (Or.inl rfl) (pv 0))
      (pss_cons (ps_for PassesOwn.never rfl (pi_range1 (by rfl) T.range (pa_cons (pv 1) pa_nil)) (pg_name (i := 4) nd rfl (Or.inl rfl))
        (pss_one (ps_if (PW.pt (pw_and (pt_cmpR op_ge (pv 0) (pe_op op_pow pe_int pe_int) (nomark _)) (pw_and1 (pt_cmpR op_gt (pv 3) pe_int (nomark _)))))
          (pss_cons (ps_expr (pe_bm PySem.F.plainAttrs_list PySem.F.slot_list_append PySem.F.type_list_append mt_append (pv 2) (pa_cons (pe_op op_mod (pe_callTy call_int1 (by rfl) T.int (by decide +kernel) (pa_cons (pv 3) pa_nil)) pe_int) pa_nil)))
          (pss_one (ps_set (i := 3) nd rfl (Or.inl rfl) (pe_op op_fdiv (pv 3) pe_int))))
          (pss_cons (ps_set (i := 5) nd rfl (Or.inl rfl) (pe_op op_mod (pe_callTy call_int1 (by rfl) T.int (by decide +kernel) (pa_cons (pe_op op_add (pe_op op_mulV (pv 0) pe_int) (pe_op op_mul (pe_op op_add (pv 4) pe_int) pe_int)) pa_nil)) pe_int))
          (pss_cons (ps_set (i := 5) nd rfl (Or.inl rfl) (pe_op op_mod (pe_callTy call_int1 (by rfl) T.int (by decide +kernel) (pa_cons (pe_op op_add (pe_op op_add (pe_op op_mul (pv 5) (pv 5)) (pe_op op_mul (pv 5) pe_int)) (pe_op op_mul (pv 4) pe_int)) pa_nil)) pe_int))
          (pss_cons (ps_set (i := 5) nd rfl (Or.inl rfl) (pe_op op_mod (pe_callTy call_int1 (by rfl) T.int (by decide +kernel) (pa_cons (pe_op op_add (pe_op op_add (pe_op op_mul (pv 5) (pv 5)) (pv 0)) (pe_op op_mul pe_int (pv 4))) pa_nil)) pe_int))
          (pss_one (ps_expr (pe_bm PySem.F.plainAttrs_list PySem.F.slot_list_append PySem.F.type_list_append mt_append (pv 2) (pa_cons (pe_op op_mod (pe_op op_fdiv (pv 5) pe_int) pe_int) pa_nil))))))))))
      (pss_one (ps_ret (pv 2))))), ?_⟩
    refine ⟨Nat.zero_le _, fun q hq => ⟨_, rfl, _, rfl, m, rfl, by omega, by omega, ?_⟩⟩
    rw [Int.toNat_natCast]
    refine for_range (lo := 0) (n := m) (fun i σ H1 => ∃ (ds : List Int) (left : Int) (v4 v5 : Option V), σ = [some (.int z), some (.int m), some (.ref q), some (.int left), v4, v5] ∧ Same H H1 ∧ Ls H1 q ds ∧ ds.length = i ∧ Drawn ds)
      ⟨[], z, none, none, rfl, Same.new hq, upd_same, rfl, fun d hd => by cases hd⟩ ?_ ?_
    · rintro i σ H1 hi ⟨ds, left, v4, v5, rfl, s1, hds, hdl, hdr⟩
      have hsz : (ds.map V.int).length < sizeLine := small1000 (by rw [List.length_map]; omega)
      have app : ∀ d : Int, 0 ≤ d ∧ d < 4096 → Same H (upd H1 q (.lst (ds.map V.int ++ [V.int d]))) ∧ Ls (upd H1 q (.lst (ds.map V.int ++ [V.int d]))) q (ds ++ [d]) ∧ (ds ++ [d]).length = i + 1 ∧ Drawn (ds ++ [d]) := fun d hd =>
        ⟨Same.put hq s1, by rw [Ls, upd_same, List.map_append]; rfl, by rw [List.length_append, hdl]; rfl, hdr.snoc hd⟩
      refine ⟨_, rfl, 10, 18, rfl, rfl, ⟨by decide, by decide, by decide⟩, _, _, rfl, rfl, _, rfl, ?_⟩
      refine (fun hB => ite2 (fun h1 => ⟨_, rfl, _, _, rfl, rfl, _, rfl, ite2 (fun h2 => ?A) (fun _ => hB)⟩) (fun _ => iteF hB)) ?B
      case A =>
        refine ⟨_, rfl, .inl ⟨rfl, _, SqL.of hds⟩, _, rfl, .inl ⟨_, rfl, _, _, rfl, rfl, (by show (0 : Int) < 4096; decide), q, _, _, rfl, rfl, hds, hsz, ?_⟩⟩
        obtain ⟨e1, e2, e3, e4⟩ := app (left % 4096) (mod_b left (by decide))
        exact ⟨_, rfl, _, _, rfl, rfl, ⟨by decide, by decide⟩, ds ++ [left % 4096], _, _, _, rfl, e1, e2, e3, e4⟩
      case B =>
        refine ⟨_, rfl, _, _, rfl, rfl, bmul hz, _, rfl, _, _, rfl, rfl, _, _, rfl, rfl, .inl ⟨by omega, by omega⟩, _, _, rfl, rfl, .inl ⟨_, rfl, _, _, rfl, rfl, (by show (0 : Int) < 2147483647; decide), ?_⟩⟩
        refine ⟨_, rfl, _, rfl, _, _, rfl, rfl, .inl ⟨by omega, by omega⟩, _, rfl, _, _, rfl, rfl, .inl ⟨by omega, by omega⟩, _, _, rfl, rfl, _, rfl, _, _, rfl, rfl, .inl ⟨by omega, by omega⟩, _, _, rfl, rfl, .inl ⟨_, rfl, _, _, rfl, rfl, (by show (0 : Int) < 2147483629; decide), ?_⟩⟩
        refine ⟨_, rfl, _, rfl, _, _, rfl, rfl, .inl ⟨by omega, by omega⟩, _, rfl, _, _, rfl, rfl, _, rfl, _, _, rfl, rfl, .inl ⟨by omega, by omega⟩, _, _, rfl, rfl, .inl ⟨_, rfl, _, _, rfl, rfl, (by show (0 : Int) < 2147483587; decide), ?_⟩⟩
        refine ⟨_, rfl, .inl ⟨rfl, _, SqL.of hds⟩, _, rfl, _, _, rfl, rfl, ⟨by decide, by decide⟩, _, _, rfl, rfl, (by show (0 : Int) < 4096; decide), q, _, _, rfl, rfl, hds, hsz, ?_⟩
        exact ⟨_, _, _, _, rfl, (app _ (mod_b _ (by decide))).1, (app _ (mod_b _ (by decide))).2.1, (app _ (mod_b _ (by decide))).2.2.1, (app _ (mod_b _ (by decide))).2.2.2⟩
    · rintro σ H1 ⟨ds, left, v4, v5, rfl, s1, hds, hdl, hdr⟩
      exact ⟨_, rfl, k H1 q ds s1 hds hdl hdr⟩
end
end Rb
/-! ## D9 -/
namespace Rb
open PySem L2
section
variable {P : Program} {w : World} {K : PySem.W.Frag} {mg : Str → Option Value} {base : Heap}
abbrev nClauseOf : List Str := ["_law_literals", "_law_found", "_law_literal"]
theorem scClauseOf : FnScope nClauseOf ["_law_literals"] (C8.fnScope sClauseOf) := C8.fnScope_by (by decide +kernel)
theorem rowIn {H : Hp} {a : Addr} {c : List Int} (h : RowAt H a c) : SqL K H a (c.map V.int) ∨ SqT K H a (c.map V.int) := h.imp SqL.of SqT.of
theorem cal_clause_of {f : Addr} {fd : FuncData} (T : Txt mg) (F : C8.Def K mg "_law_clause_of" sClauseOf f fd) (b : Binds K fd ["_law_literals"] []) : C8.Cal P w K mg base 1 "_law_clause_of" spClauseOf [] := by
  refine C8.cal0 F b .nil scClauseOf (fun vs H Q E h => ?_) (fun cdv A outer s H vs Q E hr h => ?_)
  · obtain ⟨a, ns, n, rfl, _⟩ := h
    rfl
  · obtain ⟨a, ns, n, rfl, ha, hrng, hl, kNo, kYes⟩ := h
    have nd := scClauseOf.nd
    refine ⟨_, pss_cons (ps_set (i := 1) nd rfl (Or.inl rfl) (pe_lst pa_nil))
      (pss_cons (ps_for PassesOwn.never rfl (pi_list (pe_callB cr_sortB (by rfl) T.sorted (by decide +kernel) (pa_cons (pv 0) pa_nil))) (pg_name (i := 2) nd rfl (Or.inl rfl))
        (pss_cons (ps_if (pt_cmpR op_in_seq (pe_un un_neg (pv 2)) (pv 0) rfl) (pss_one (ps_ret pe_non)) pss_nil)
        (pss_one (ps_if (pt_cmpR op_notIn_seq (pv 2) (pv 1) rfl) (pss_one (ps_expr (pe_bm PySem.F.plainAttrs_list PySem.F.slot_list_append PySem.F.type_list_append mt_append (pv 1) (pa_cons (pv 2) pa_nil)))) pss_nil))))
      (pss_one (ps_ret (pe_callTy call_tuple_of (by rfl) T.tuple (by decide +kernel) (pa_cons (pv 1) pa_nil))))), ?_⟩
    refine ⟨Nat.zero_le _, fun q hq => ⟨_, rfl, ?_⟩⟩
    have s0 : Same H (upd H q (.lst [])) := Same.new hq
    refine ⟨a, ns, rfl, rowIn (ha.same s0), hl, fun ns' p pn hsn hp => ?_⟩
    have hqp : q ≠ p := ne_of_none upd_same hp
    have s1 := Same.put (o := .lst (ns'.map V.int)) (s0.free hp) s0
    refine ⟨p, rfl, ⟨_, SqL.of upd_same⟩, ?_⟩
    have hp1 : upd (upd H q (.lst [])) p (.lst (ns'.map V.int)) p = some (.lst (ns'.map V.int)) := upd_same
    have hq1 : upd (upd H q (.lst [])) p (.lst (ns'.map V.int)) q = some (.lst []) := by rw [upd_ne hqp]; exact upd_same
    generalize upd (upd H q (.lst [])) p (.lst (ns'.map V.int)) = H1 at s1 hp1 hq1 ⊢
    refine for_list (K := K) (a := p) (xs := ns'.map V.int) (fun i σ H2 => ∃ (U : List Int) (v2 : Option V), σ = [some (.ref a), some (.ref q), v2] ∧ Same H H2 ∧ H2 p = some (.lst (ns'.map V.int)) ∧ Ls H2 q U ∧ U.length ≤ i ∧ U.Pairwise (· < ·) ∧ (∀ l ∈ U, l ∈ ns'.take i ∧ -l ∉ ns))
      ⟨[], none, rfl, s1, hp1, hq1, Nat.le_refl _, List.Pairwise.nil, fun l hl => by cases hl⟩ (fun i σ H2 _ ⟨_, _, _, _, e, _⟩ => SqL.of e) ?_ ?_
    · rintro i x σ H2 hi ⟨U, v2, rfl, s2, hp2, hU, hUl, hUp, hUm⟩
      obtain ⟨z, hz, rfl⟩ := int_at hi
      have hil : i < ns'.length := (List.getElem?_eq_some_iff.mp hz).1
      have hln : ns'.length = ns.length := pn.length_eq
      have htk : ns'.take (i + 1) = ns'.take i ++ [z] := take_snoc hz
      have keep : ∀ l ∈ U, l ∈ ns'.take (i + 1) ∧ -l ∉ ns := fun l hl' => ⟨by rw [htk]; exact List.mem_append_left _ (hUm l hl').1, (hUm l hl').2⟩
      refine ⟨_, rfl, _, rfl, _, rfl, a, _, rfl, rowIn (ha.same s2), rfl, flat_ints ns, _, rfl, ?_⟩
      rw [if_neg Bool.false_ne_true, inV_ints]
      by_cases hm : -z ∈ ns
      · rw [decide_eq_true hm]
        exact iteT (kNo H2 s2)
      · rw [decide_eq_false hm]
        refine iteF ⟨_, rfl, _, rfl, q, _, rfl, .inl (SqL.of hU), rfl, flat_ints U, _, rfl, ?_⟩
        rw [if_pos rfl, inV_ints]
        by_cases hzU : z ∈ U
        · rw [decide_eq_true hzU]
          exact iteF ⟨U, _, rfl, s2, hp2, hU, by omega, hUp, keep⟩
        · rw [decide_eq_false hzU]
          refine iteT ⟨_, rfl, .inl ⟨rfl, _, SqL.of hU⟩, _, rfl, q, _, _, rfl, rfl, hU, small1000 (by rw [List.length_map]; omega), ?_⟩
          refine ⟨U ++ [z], _, rfl, Same.put hq s2, by rw [upd_ne hqp.symm]; exact hp2, by rw [Ls, upd_same, List.map_append]; rfl, by rw [List.length_append, List.length_singleton]; omega, ?_, ?_⟩
          · rw [List.pairwise_append]
            refine ⟨hUp, List.pairwise_singleton _ _, fun x hx y hy => ?_⟩
            rw [List.mem_singleton.mp hy]
            have h1 := (hUm x hx).1
            have h2 : x ≤ z := by
              have hp3 := hsn
              rw [← List.take_append_drop i ns'] at hp3
              have h3 := (List.pairwise_append.mp hp3).2.2 x h1 z
              refine h3 ?_
              rw [List.mem_drop_iff_getElem]
              obtain ⟨h4, h5⟩ := List.getElem?_eq_some_iff.mp hz
              exact ⟨0, by omega, by simpa using h5⟩
            have h3 : x ≠ z := fun e => hzU (by rw [← e]; exact hx)
            omega
          · intro l hl'
            rcases List.mem_append.mp hl' with q' | q'
            · exact keep l q'
            · rw [List.mem_singleton.mp q']
              exact ⟨by rw [htk]; exact List.mem_append_right _ (List.mem_singleton.mpr rfl), hm⟩
    · rintro σ H2 ⟨U, v2, rfl, s2, hp2, hU, hUl, hUp, hUm⟩
      refine ⟨_, rfl, q, _, rfl, .inl ⟨SqL.of hU, fun t ht => ?_⟩⟩
      have mem : ∀ l ∈ U, l ∈ ns := fun l hl' => pn.mem_iff.mp (List.mem_of_mem_take (hUm l hl').1)
      exact kYes _ t U (Same.put (s2.free ht) s2) upd_same ⟨hUp, fun l hl' q' => (hUm l hl').2 (mem _ q'), fun l hl' => hrng l (mem l hl')⟩
end
end Rb
/-! ## D10 -/
namespace Rb
open PySem L2
section
variable {P : Program} {w : World} {K : PySem.W.Frag} {mg : Str → Option Value} {base : Heap}
abbrev nRows : List Str := ["_law_draws_here", "_law_at", "_law_n", "_law_many", "_law_wide", "_law_rows_here", "_law_k", "_law_row", "_law_j", "_law_draw", "_law_v"]
theorem scRows : FnScope nRows ["_law_draws_here", "_law_at", "_law_n", "_law_many", "_law_wide"] (C8.fnScope sRows) := C8.fnScope_by (by decide +kernel)
theorem drawn_at {ds : List Int} (h : Drawn ds) (h0 : 0 < ds.length) (e : Int) : ∃ d, atI (ds.map V.int) (e % ((ds.map V.int).length : Int)) = some (V.int d) ∧ 0 ≤ d ∧ d < 4096 := by
  have hl : ((ds.map V.int).length : Int) = (ds.length : Int) := by rw [List.length_map]
  rw [hl]
  have h1 := Int.emod_nonneg e (show (ds.length : Int) ≠ 0 by omega)
  have h2 := Int.emod_lt_of_pos e (show (0 : Int) < (ds.length : Int) by omega)
  obtain ⟨j, hj⟩ : ∃ j : Nat, e % (ds.length : Int) = (j : Int) := ⟨(e % (ds.length : Int)).toNat, by omega⟩
  have hjl : j < ds.length := by omega
  exact ⟨ds[j], at_of hj (by rw [List.getElem?_map, List.getElem?_eq_getElem hjl]; rfl), h ds[j] (List.getElem_mem hjl)⟩
theorem pick2 (v : Int) {e : Int} (h1 : 0 ≤ e) (h2 : e < 2) : ∃ w, atI [V.int v, V.int (-v)] e = some (V.int w) ∧ (w = v ∨ w = -v) := by
  by_cases h : e = 0
  · exact ⟨v, at_of (j := 0) (by omega) rfl, .inl rfl⟩
  · exact ⟨-v, at_of (j := 1) (by omega) rfl, .inr rfl⟩
theorem cal_rows {f : Addr} {fd : FuncData} (T : Txt mg) (F : C8.Def K mg "_law_rows" sRows f fd) (b : Binds K fd ["_law_draws_here", "_law_at", "_law_n", "_law_many", "_law_wide"] []) : C8.Cal P w K mg base 1 "_law_rows" spRows [] := by
  refine C8.cal0 F b .nil scRows (fun vs H Q E h => ?_) (fun cdv A outer s H vs Q E hr h => ?_)
  · obtain ⟨d, ds, n, many, ni, mi, rfl, _⟩ := h
    rfl
  · obtain ⟨d, ds, n, many, ni, mi, rfl, hni, hmi, hd, hd0, hdr, hn1, hn5, hm, k⟩ := h
    have nd := scRows.nd
    refine ⟨_, pss_cons (ps_set (i := 5) nd rfl (Or.inl rfl) (pe_lst pa_nil))
      (pss_cons (ps_for PassesOwn.never rfl (pi_range1 (by rfl) T.range (pa_cons (pv 3) pa_nil)) (pg_name (i := 6) nd rfl (Or.inl rfl))
        (pss_cons (ps_set (i := 7) nd rfl (Or.inl rfl) (pe_lst pa_nil))
        (pss_cons (ps_for PassesOwn.never rfl (pi_range1 (by rfl) T.range (pa_cons (pe_op op_mod (pe_ix ix_list (pv 0) (pe_op op_mod (pe_op op_add (pv 1) (pe_op op_mul pe_int (pv 6))) (pe_callB call_len_seq (by rfl) T.len PySem.boot_len (pa_cons (pv 0) pa_nil))) (fun _ _ => rfl)) (pe_op op_add (pv 4) pe_int)) pa_nil)) (pg_name (i := 8) nd rfl (Or.inl rfl))
          (pss_cons (ps_set (i := 9) nd rfl (Or.inl rfl) (pe_op op_add (pe_ix ix_list (pv 0) (pe_op op_mod (pe_op op_add (pe_op op_add (pe_op op_add (pv 1) (pe_op op_mul pe_int (pv 6))) pe_int) (pv 8)) (pe_callB call_len_seq (by rfl) T.len PySem.boot_len (pa_cons (pv 0) pa_nil))) (fun _ _ => rfl)) (pe_op op_mul pe_int (pv 6))))
          (pss_cons (ps_set (i := 10) nd rfl (Or.inl rfl) (pe_op op_add pe_int (pe_op op_mod (pv 9) (pv 2))))
          (pss_one (ps_expr (pe_bm PySem.F.plainAttrs_list PySem.F.slot_list_append PySem.F.type_list_append mt_append (pv 7) (pa_cons (pe_ix ix_list (pe_lst (pa_cons (pv 10) (pa_cons (pe_un un_neg (pv 10)) pa_nil))) (pe_op op_mod (pe_op op_fdiv (pv 9) (pv 2)) pe_int) (fun _ _ => rfl)) pa_nil)))))))
        (pss_one (ps_expr (pe_bm PySem.F.plainAttrs_list PySem.F.slot_list_append PySem.F.type_list_append mt_append (pv 5) (pa_cons (pv 7) pa_nil)))))))
      (pss_one (ps_ret (pv 5)))), ?_⟩
    refine ⟨Nat.zero_le _, fun q hq => ⟨_, rfl, mi, rfl, by omega, by omega, ?_⟩⟩
    rw [show mi.toNat = many by omega]
    refine for_range (lo := 0) (n := many) (fun i σ H1 => ∃ (rows : List (Addr × List Int)) (v6 v7 v8 v9 v10 : Option V), σ = [some (.ref d), some (.int 2), some (.int ni), some (.int mi), some (.int 3), some (.ref q), v6, v7, v8, v9, v10] ∧ Same H H1 ∧ H1 q = some (.lst (rfs rows)) ∧
      (∀ p ∈ rows, Ls H1 p.1 p.2 ∧ Rng n p.2 ∧ p.2.length ≤ 3 ∧ p.1 ≠ q) ∧ rows.length = i) ⟨[], none, none, none, none, none, rfl, Same.new hq, upd_same, (fun p hp => by cases hp), rfl⟩ ?_ ?_
    · rintro i σ H1 hi ⟨rows, v6, v7, v8, v9, v10, rfl, s1, hq1, hrows, hrl⟩
      -- row = []
      refine ⟨Nat.zero_le _, fun r hr0 => ?_⟩
      have hd1 := s1 _ _ hd
      have t1 : Same H1 (upd H1 r (.lst [])) := Same.new hr0
      obtain ⟨d0, e0, e1, e2⟩ := drawn_at hdr hd0 (2 + 7 * (0 + (i : Int)))
      have b0 : 0 ≤ d0 % (3 + 1) ∧ d0 % (3 + 1) < 3 + 1 := ⟨Int.emod_nonneg _ (by decide), Int.emod_lt_of_pos _ (by decide)⟩
      refine ⟨_, rfl, _, rfl, _, rfl, _, _, rfl, rfl, .inl ⟨by decide, by decide⟩, _, _, rfl, rfl, _, rfl, d, _, rfl, .inl (SqL.of (t1 _ _ hd1)), _, _, rfl, rfl, by rw [List.length_map]; omega, d, _, _, .int d0, rfl, rfl, SqL.of (t1 _ _ hd1), e0, _, rfl, _, _, rfl, rfl, _, _, rfl, rfl, (by show (0 : Int) < 3 + 1; decide), _, rfl, by omega, by omega, ?_⟩
      refine for_range (lo := 0) (n := (d0 % (3 + 1)).toNat) (fun j σ H2 => ∃ (row : List Int) (v8 v9 v10 : Option V), σ = [some (.ref d), some (.int 2), some (.int ni), some (.int mi), some (.int 3), some (.ref q), some (.int (0 + (i : Int))), some (.ref r), v8, v9, v10] ∧ Same H1 H2 ∧ Ls H2 r row ∧ Rng n row ∧ row.length = j)
        ⟨[], v8, v9, v10, rfl, t1, upd_same, (fun l hl => by cases hl), rfl⟩ ?_ ?_
      · rintro j σ H2 hj ⟨row, v8, v9, v10, rfl, t2, hrow, hrr, hrwl⟩
        have hd2 := t2 _ _ hd1
        obtain ⟨d1, f0, f1, f2⟩ := drawn_at hdr hd0 (2 + 7 * (0 + (i : Int)) + 1 + (0 + (j : Int)))
        refine ⟨_, rfl, _, rfl, _, rfl, _, _, rfl, rfl, .inl ⟨by decide, by decide⟩, _, _, rfl, rfl, _, _, rfl, rfl, _, rfl, _, _, rfl, rfl, _, rfl, d, _, rfl, .inl (SqL.of hd2), _, _, rfl, rfl, by rw [List.length_map]; omega, d, _, _, .int d1, rfl, rfl, SqL.of hd2, f0, _, rfl, _, _, rfl, rfl, .inl ⟨by decide, by decide⟩, _, _, rfl, rfl, ?_⟩
        refine ⟨_, rfl, _, rfl, _, _, rfl, rfl, by omega, _, _, rfl, rfl, ?_⟩
        have m1 := Int.emod_nonneg (d1 + 31 * (0 + (i : Int))) (show ni ≠ 0 by omega)
        have m2 := Int.emod_lt_of_pos (d1 + 31 * (0 + (i : Int))) (show 0 < ni by omega)
        have p1 := Int.emod_nonneg ((d1 + 31 * (0 + (i : Int))) / ni) (show (2 : Int) ≠ 0 by decide)
        have p2 := Int.emod_lt_of_pos ((d1 + 31 * (0 + (i : Int))) / ni) (show (0 : Int) < 2 by decide)
        obtain ⟨x, g0, g1⟩ := pick2 (1 + (d1 + 31 * (0 + (i : Int))) % ni) p1 p2
        refine ⟨_, rfl, .inl ⟨rfl, _, SqL.of hrow⟩, _, rfl, _, rfl, _, rfl, (by show 2 ≤ sizeLine; decide), fun t ht => ?_⟩
        have hrt : r ≠ t := ne_of_none hrow ht
        have hrow3 : upd H2 t (.lst [V.int (1 + (d1 + 31 * (0 + (i : Int))) % ni), V.int (-(1 + (d1 + 31 * (0 + (i : Int))) % ni))]) r = some (.lst (row.map V.int)) := by rw [upd_ne hrt]; exact hrow
        refine ⟨_, rfl, _, rfl, _, _, rfl, rfl, ⟨by omega, by omega⟩, _, _, rfl, rfl, (by show (0 : Int) < 2; decide), t, _, _, .int x, rfl, rfl, SqL.of upd_same, g0, r, _, _, rfl, rfl, hrow3, small1000 (by rw [List.length_map]; omega), ?_⟩
        refine ⟨row ++ [x], _, _, _, rfl, Same.put hr0 (Same.put (t2.free ht) t2), by rw [Ls, upd_same, List.map_append]; rfl, fun l hl => ?_, by rw [List.length_append, hrwl]; rfl⟩
        rcases List.mem_append.mp hl with hl | hl
        · exact hrr l hl
        · rw [List.mem_singleton.mp hl]
          rcases g1 with g1 | g1 <;> omega
      · rintro σ H2 ⟨row, v8, v9, v10, rfl, t2, hrow, hrr, hrwl⟩
        have hq2 := t2 _ _ hq1
        have hqr : q ≠ r := ne_of_none hq1 hr0
        have hll : (rfs rows).length = rows.length := List.length_map ..
        refine ⟨_, rfl, .inl ⟨rfl, _, SqL.of hq2⟩, _, rfl, q, _, _, rfl, rfl, hq2, small1000 (by omega), ?_⟩
        refine ⟨rows ++ [(r, row)], _, _, _, _, _, rfl, Same.put hq (s1.trans t2), by rw [upd_same]; simp [rfs], fun p hp => ?_, by rw [List.length_append, hrl]; rfl⟩
        rcases List.mem_append.mp hp with hp | hp
        · obtain ⟨a1, a2, a3, a4⟩ := hrows p hp
          exact ⟨by rw [Ls, upd_ne a4]; exact t2 _ _ a1, a2, a3, a4⟩
        · rw [List.mem_singleton.mp hp]
          exact ⟨by rw [Ls, upd_ne hqr.symm]; exact hrow, hrr, by show row.length ≤ 3; omega, hqr.symm⟩
    · rintro σ H1 ⟨rows, v6, v7, v8, v9, v10, rfl, s1, hq1, hrows, hrl⟩
      exact ⟨_, rfl, k H1 q rows s1 hq1 (fun p hp => by
        obtain ⟨a1, a2, a3, a4⟩ := hrows p hp
        exact ⟨.inl a1, a2, by omega⟩) hrl⟩
end
end Rb
/-! ## D11 -/
namespace Rb
open PySem L2
section
variable {P : Program} {w : World} {K : PySem.W.Frag} {mg : Str → Option Value} {base : Heap}
abbrev nOfRows : List Str := ["_law_n", "_law_rows_here", "_law_found", "_law_row", "_law_clause"]
theorem scOfRows : FnScope nOfRows ["_law_n", "_law_rows_here"] (C8.fnScope sOfRows) := C8.fnScope_by (by decide +kernel)
theorem hu65 {A : Around} {k : Nat} (hr : Room k A) : A.units + 65 < cLine := by have := hr.un; omega
theorem cal_of_rows {f : Addr} {fd : FuncData} (T : Txt mg) (F : C8.Def K mg "_law_of_rows" sOfRows f fd) (b : Binds K fd ["_law_n", "_law_rows_here"] []) (cC : C8.Cal P w K mg base 1 "_law_clause_of" spClauseOf []) : C8.Cal P w K mg base 2 "_law_of_rows" spOfRows [] := by
  refine C8.cal0 F b .nil scOfRows (fun vs H Q E h => ?_) (fun cdv A outer s H vs Q E hr h => ?_)
  · obtain ⟨r, n, ni, rows, rfl, _⟩ := h
    rfl
  · obtain ⟨r, n, ni, rows, rfl, hni, hR, hrows, hlen, k⟩ := h
    have nd := scOfRows.nd
    have hu := hr.units
    refine ⟨_, pss_cons (ps_set (i := 2) nd rfl (Or.inl rfl) (pe_lst pa_nil))
      (pss_cons (ps_for PassesOwn.never rfl (pi_list (pv 1)) (pg_name (i := 3) nd rfl (Or.inl rfl))
        (pss_cons (ps_set (i := 4) nd rfl (Or.inl rfl) (C8.pe_c cC hr (by decide) rfl (pa_cons (pv 3) pa_nil)))
        (pss_one (ps_if (PW.pt (pw_and (pt_cmpR op_notN (pv 4) pe_non (nomark _)) (pw_and1 (pt_cmpR (op_notInD (hu65 hr)) (pv 4) (pv 2) rfl))))
          (pss_one (ps_expr (pe_bm PySem.F.plainAttrs_list PySem.F.slot_list_append PySem.F.type_list_append mt_append (pv 2) (pa_cons (pv 4) pa_nil)))) pss_nil))))
      (pss_one (ps_ret (pe_tup (pa_cons (pv 0) (pa_cons (pe_callTy call_tuple_of (by rfl) T.tuple (by decide +kernel) (pa_cons (pe_callB (cr_sortCs hu) (by rfl) T.sorted (by decide +kernel) (pa_cons (pv 2) pa_nil)) pa_nil)) pa_nil)))))), ?_⟩
    refine ⟨Nat.zero_le _, fun q hq => ⟨_, rfl, ?_⟩⟩
    have s0 : Same H (upd H q (.lst [])) := Same.new hq
    refine ⟨r, rfl, ⟨_, SqL.of (s0 _ _ hR)⟩, for_list (K := K) (a := r) (xs := rfs rows) (fun i σ H1 => ∃ (ms : List (Addr × List Int)) (v3 v4 : Option V), σ = [some (.int ni), some (.ref r), some (.ref q), v3, v4] ∧ Same H H1 ∧ CsL H1 q ms ∧ Clauses n (cls ms) ∧ ms.length ≤ i)
      ⟨[], none, none, rfl, s0, ⟨upd_same, fun p hp => by cases hp⟩, (fun c hc => by cases hc), Nat.le_refl _⟩ (fun i σ H1 _ ⟨_, _, _, _, e, _⟩ => SqL.of (e _ _ hR)) ?_ ?_⟩
    · rintro i x σ H1 hi ⟨ms, v3, v4, rfl, s1, hms, hcl, hml⟩
      obtain ⟨p, hp, rfl⟩ := ref_at hi
      obtain ⟨a1, a2, a3⟩ := hrows p (List.mem_of_getElem? hp)
      have hil : i < rows.length := (List.getElem?_eq_some_iff.mp hp).1
      refine ⟨_, rfl, p.1, p.2, n, rfl, a1.same s1, a2, a3, fun H2 s2 => ?_, fun H2 t c s2 ht hc => ?_⟩
      · refine ⟨_, rfl, rfl, _, rfl, ?_⟩
        rw [decide_eq_true (show V.non = V.non from rfl)]
        exact iteF (iteF ⟨ms, _, _, rfl, s1.trans s2, hms.same s2, hcl, by omega⟩)
      · have hms2 := hms.same s2
        refine ⟨_, rfl, rfl, _, rfl, ?_⟩
        rw [decide_eq_false (show ¬ V.ref t = V.non by intro z; cases z)]
        refine iteT ⟨_, rfl, _, rfl, tupD c, _, dp_tup ht, dp_list hms2, shaped_tup c, shaped_tups _, _, rfl, ?_⟩
        rw [any_eqv]
        have hll : (rfs ms).length = ms.length := List.length_map ..
        by_cases hm : c ∈ cls ms
        · rw [decide_eq_true hm]
          exact iteF ⟨ms, _, _, rfl, s1.trans s2, hms2, hcl, by omega⟩
        · rw [decide_eq_false hm]
          refine iteT ⟨_, rfl, .inl ⟨rfl, _, SqL.of hms2.1⟩, _, rfl, q, _, _, rfl, rfl, hms2.1, small1000 (by omega), ?_⟩
          refine ⟨ms ++ [(t, c)], _, _, rfl, Same.put hq (s1.trans s2), ⟨by rw [upd_same]; simp [rfs], fun m hm' => ?_⟩, ?_, by rw [List.length_append, List.length_singleton]; omega⟩
          · rcases List.mem_append.mp hm' with hm' | hm'
            · rw [Tp, upd_ne (tup_ne (hms2.2 m hm') hms2.1)]
              exact hms2.2 m hm'
            · rw [List.mem_singleton.mp hm', Tp, upd_ne (tup_ne ht hms2.1)]
              exact ht
          · rw [show cls (ms ++ [(t, c)]) = cls ms ++ [c] by simp [cls]]
            exact hcl.app fun d hd => by rw [List.mem_singleton.mp hd]; exact hc
    · rintro σ H1 ⟨ms, v3, v4, rfl, s1, hms, hcl, hml⟩
      have hll : (rfs rows).length = rows.length := List.length_map ..
      refine ⟨_, rfl, _, rfl, q, ms, rfl, SqL.of hms.1, (fun p hp => SqT.of (hms.2 p hp)), fun ks p pk hp => ?_⟩
      have s2 := Same.put (o := .lst (ks.map fun q => V.ref q.1)) (s1.free hp) s1
      refine ⟨p, _, rfl, .inl ⟨SqL.of upd_same, fun u hu => ?_⟩⟩
      have s3 := Same.put (o := .tup (ks.map fun q => V.ref q.1)) (s2.free hu) s2
      refine ⟨(by show 2 ≤ sizeLine; decide), fun t ht => ?_⟩
      refine k _ t ks (Same.put (s3.free ht) s3) ⟨u, ?_, ?_, fun m hm => ?_⟩ (fun c hc => hcl c ((pk.map (·.2)).mem_iff.mp hc)) (by rw [pk.length_eq]; omega)
      · rw [upd_same, hni]
      · rw [upd_ne (ne_of_none upd_same ht)]
        exact upd_same
      · exact Same.new ht _ _ (Same.new hu _ _ (Same.new hp _ _ (hms.2 m (pk.mem_iff.mp hm))))
abbrev nFormula : List Str := ["_law_cell_here", "_law_most", "_law_many", "_law_draws_here", "_law_n"]
theorem scFormula : FnScope nFormula ["_law_cell_here", "_law_most", "_law_many"] (C8.fnScope sFormula) := C8.fnScope_by (by decide +kernel)
theorem drawn_ix {ds : List Int} (h : Drawn ds) {j : Nat} (hj : j < ds.length) : ∃ d, atI (ds.map V.int) (j : Int) = some (V.int d) ∧ 0 ≤ d ∧ d < 4096 :=
  ⟨ds[j], at_of rfl (by rw [List.getElem?_map, List.getElem?_eq_getElem hj]; rfl), h ds[j] (List.getElem_mem hj)⟩
theorem cal_formula {f : Addr} {fd : FuncData} (T : Txt mg) (F : C8.Def K mg "_law_formula" sFormula f fd) (b : Binds K fd ["_law_cell_here", "_law_most", "_law_many"] [])
    (cD : C8.Cal P w K mg base 1 "_law_draws" spDraws []) (cR : C8.Cal P w K mg base 1 "_law_rows" spRows []) (cO : C8.Cal P w K mg base 2 "_law_of_rows" spOfRows []) : C8.Cal P w K mg base 3 "_law_formula" spFormula [] := by
  refine C8.cal0 F b .nil scFormula (fun vs H Q E h => ?_) (fun cdv A outer s H vs Q E hr h => ?_)
  · obtain ⟨z, most, many, rfl, _⟩ := h
    rfl
  · obtain ⟨z, most, many, rfl, hz, hm1, hm5, hmn, k⟩ := h
    have nd := scFormula.nd
    refine ⟨_, pss_cons (ps_set (i := 3) nd rfl (Or.inl rfl) (C8.pe_c cD hr (by decide) rfl (pa_cons (pv 0) (pa_cons pe_int pa_nil))))
      (pss_cons (ps_set (i := 4) nd rfl (Or.inl rfl) (pe_op op_add pe_int (pe_op op_mod (pe_ix ix_list (pv 3) pe_int (fun _ _ => rfl)) (pv 1))))
      (pss_one (ps_ret (C8.pe_c cO hr (by decide) rfl (pa_cons (pv 4) (pa_cons (C8.pe_c cR hr (by decide) rfl (pa_cons (pv 3) (pa_cons pe_int (pa_cons (pv 4) (pa_cons (pe_op op_mod (pe_ix ix_list (pv 3) pe_int (fun _ _ => rfl)) (pe_op op_add (pv 2) pe_int)) (pa_cons pe_int pa_nil)))))) pa_nil)))))), ?_⟩
    refine ⟨_, rfl, z, 90, rfl, hz, by decide, fun H1 q ds s1 hds hdl hdr => ?_⟩
    obtain ⟨d0, e0, e1, e2⟩ := drawn_ix hdr (show 0 < ds.length by omega)
    obtain ⟨d1, f0, f1, f2⟩ := drawn_ix hdr (show 1 < ds.length by omega)
    have m1 := Int.emod_nonneg d0 (show (most : Int) ≠ 0 by omega)
    have m2 := Int.emod_lt_of_pos d0 (show (0 : Int) < (most : Int) by omega)
    have p1 := Int.emod_nonneg d1 (show (many : Int) + 1 ≠ 0 by omega)
    have p2 := Int.emod_lt_of_pos d1 (show (0 : Int) < (many : Int) + 1 by omega)
    refine ⟨_, rfl, q, _, 0, .int d0, rfl, rfl, SqL.of hds, e0, _, rfl, _, _, rfl, rfl, by omega, _, _, rfl, rfl, ?_⟩
    refine ⟨_, rfl, _, rfl, _, rfl, _, rfl, q, _, 1, .int d1, rfl, rfl, SqL.of hds, f0, _, rfl, _, _, rfl, rfl, _, _, rfl, rfl, by omega, ?_⟩
    refine ⟨q, ds, (1 + d0 % (most : Int)).toNat, (d1 % ((many : Int) + 1)).toNat, _, _, rfl, by omega, by omega, hds, by omega, hdr, by omega, by omega, by omega, fun H2 r rows s2 hr2 hrows hrl => ?_⟩
    refine ⟨r, (1 + d0 % (most : Int)).toNat, _, rows, rfl, by omega, hr2, hrows, by omega, fun H3 u ks s3 hu hc hl => ?_⟩
    exact k H3 u _ ks ((s1.trans s2).trans s3) hu (by omega) hc (by omega)
abbrev nBare : List Str := ["_law_cell_here", "_law_most", "_law_many", "_law_draws_here"]
theorem scBare : FnScope nBare ["_law_cell_here", "_law_most", "_law_many"] (C8.fnScope sBare) := C8.fnScope_by (by decide +kernel)
theorem cal_bare {f : Addr} {fd : FuncData} (T : Txt mg) (F : C8.Def K mg "_law_bare" sBare f fd) (b : Binds K fd ["_law_cell_here", "_law_most", "_law_many"] [])
    (cD : C8.Cal P w K mg base 1 "_law_draws" spDraws []) (cF : C8.Cal P w K mg base 3 "_law_formula" spFormula []) : C8.Cal P w K mg base 4 "_law_bare" spBare [] := by
  refine C8.cal0 F b .nil scBare (fun vs H Q E h => ?_) (fun cdv A outer s H vs Q E hr h => ?_)
  · obtain ⟨z, rfl, _⟩ := h
    rfl
  · obtain ⟨z, rfl, hz, k⟩ := h
    have nd := scBare.nd
    refine ⟨_, pss_cons (ps_set (i := 3) nd rfl (Or.inl rfl) (C8.pe_c cD hr (by decide) rfl (pa_cons (pv 0) (pa_cons pe_int pa_nil))))
      (pss_cons (ps_if (pt_cmpR op_eq (pe_op op_mod (pe_ix ix_list (pv 3) pe_int (fun _ _ => rfl)) pe_int) pe_int (nomark _)) (pss_one (ps_ret (pe_tup (pa_cons pe_int (pa_cons (pe_ix ix_list (pe_lst (pa_cons (pe_tup pa_nil) (pa_cons (pe_tup (pa_cons (pe_tup pa_nil) pa_nil)) pa_nil))) (pe_op op_mod (pe_ix ix_list (pv 3) pe_int (fun _ _ => rfl)) pe_int) (fun _ _ => rfl)) pa_nil))))) pss_nil)
      (pss_one (ps_ret (C8.pe_c cF hr (by decide) rfl (pa_cons (pv 0) (pa_cons (pv 1) (pa_cons (pv 2) pa_nil))))))), ?_⟩
    refine ⟨_, rfl, z, 90, rfl, hz, by decide, fun H1 q ds s1 hds hdl hdr => ?_⟩
    obtain ⟨d0, e0, e1, e2⟩ := drawn_ix hdr (show 89 < ds.length by omega)
    obtain ⟨d1, f0, f1, f2⟩ := drawn_ix hdr (show 88 < ds.length by omega)
    refine ⟨_, rfl, q, _, 89, .int d0, rfl, rfl, SqL.of hds, e0, _, _, rfl, rfl, (by show (0 : Int) < 7; decide), rfl, _, rfl, ?_⟩
    refine ite2 (fun _ => ?_) (fun _ => ?_)
    · refine ⟨Nat.zero_le _, fun a ha => ⟨Nat.zero_le _, fun b hb => ⟨(by show 1 ≤ sizeLine; decide), fun c hc => ⟨(by show 2 ≤ sizeLine; decide), fun l hl => ?_⟩⟩⟩⟩
      have t1 := Same.put (o := .tup []) (s1.free ha) s1
      have t2 := Same.put (o := .tup []) (t1.free hb) t1
      have t3 := Same.put (o := .tup [V.ref b]) (t2.free hc) t2
      have t4 := Same.put (o := .lst [V.ref a, V.ref c]) (t3.free hl) t3
      have ub : Same (upd H1 a (.tup [])) (upd (upd (upd (upd H1 a (.tup [])) b (.tup [])) c (.tup [V.ref b])) l (.lst [V.ref a, V.ref c])) := (Same.new hb).trans ((Same.new hc).trans (Same.new hl))
      have p1 := Int.emod_nonneg d1 (show (2 : Int) ≠ 0 by decide)
      have p2 := Int.emod_lt_of_pos d1 (show (0 : Int) < 2 by decide)
      obtain ⟨x, ks, hx, hk, hc, hkl⟩ : ∃ (x : Addr) (ks : List (Addr × List Int)), atI [V.ref a, V.ref c] (d1 % 2) = some (V.ref x) ∧ CsT (upd (upd (upd (upd H1 a (.tup [])) b (.tup [])) c (.tup [V.ref b])) l (.lst [V.ref a, V.ref c])) x ks ∧ Clauses (0 : Nat) (cls ks) ∧ ks.length ≤ 10 := by
        by_cases hi : d1 % 2 = 0
        · exact ⟨a, [], at_of (j := 0) hi rfl, ⟨ub _ _ upd_same, fun p hp => by cases hp⟩, (fun c hc => by cases hc), by decide⟩
        · refine ⟨c, [(b, [])], at_of (j := 1) (by omega) rfl, ⟨Same.new hl _ _ upd_same, fun p hp => ?_⟩, (fun c hc => ?_), (by show 1 ≤ 10; decide)⟩
          · rw [List.mem_singleton.mp hp]
            exact Same.new hl _ _ (Same.new hc _ _ upd_same)
          · rw [List.mem_singleton.mp hc]
            exact ⟨List.Pairwise.nil, fun l hl => (by cases hl), fun l hl => (by cases hl)⟩
      exact ⟨_, rfl, q, _, 88, .int d1, rfl, rfl, SqL.of (ub _ _ ((Same.new ha) _ _ hds)), f0, _, _, rfl, rfl, (by show (0 : Int) < 2; decide), l, _, _, .ref x, rfl, rfl, SqL.of upd_same, hx, (by show 2 ≤ sizeLine; decide), fun u hu => k _ u 0 ks (Same.put (t4.free hu) t4) ⟨x, upd_same, hk.same (Same.new hu)⟩ (by decide) hc hkl⟩
    · exact ⟨_, rfl, _, rfl, _, rfl, z, 5, 10, rfl, hz, by decide, by decide, by decide, fun H2 r n ks s2 hf hn hc hl => k H2 r n ks (s1.trans s2) hf hn hc hl⟩
end
end Rb
/-! ## D12 -/
namespace Rb
open PySem L2
section
variable {P : Program} {w : World} {K : PySem.W.Frag} {mg : Str → Option Value} {base : Heap}
abbrev nAssignments : List Str := ["_law_n", "_law_found", "_law_v", "_law_cube"]
theorem scAssignments : FnScope nAssignments ["_law_n"] (C8.fnScope sAssignments) := C8.fnScope_by (by decide +kernel)
theorem asg_short {n : Nat} (h : n ≤ 5) : (asg n).length ≤ 32 := by
  rw [asg_len]
  exact Nat.pow_le_pow_right (n := 2) (by decide) h
theorem asg_item {n : Nat} {U : List Int} {i : Nat} (h : (asg n)[i]? = some U) : U ∈ asg n := List.mem_of_getElem? h
/-- one half: [cube + (x,) for cube in found] -/
theorem half_turn {H1 H2 : Hp} {D q : Addr} {fs gs : List (Addr × List Int)} {j : Nat} {p : Addr × List Int} {x : Int} {Q : V → Hp → Prop} (hD : H1 D = none) (hp : fs[j]? = some p) (hpt : Tp H2 p.1 p.2) (s2 : Same H1 H2) (hg : CsL H2 D gs) (eg : cls gs = ((cls fs).take j).map (fun c => c ++ [x])) (lg : gs.length = j) (hs : j < 1000) (hpl : p.2.length ≤ 5)
    (fin : ∀ (u : Addr) (H4 : Hp), Same H1 (upd H4 D (.lst (rfs gs ++ [V.ref u]))) → CsL (upd H4 D (.lst (rfs gs ++ [V.ref u]))) D (gs ++ [(u, p.2 ++ [x])]) → H4 D = some (.lst (rfs gs)) → Q (.ref u) H4) :
    1 ≤ sizeLine ∧ ∀ t, H2 t = none → rCatA K (.ref p.1) (.ref t) (upd H2 t (.tup [.int x])) Q := by
  refine ⟨by decide, fun t ht => ⟨p.1, t, p.2.map V.int, [.int x], rfl, rfl, SqT.of (Same.new ht _ _ hpt), SqT.of upd_same, Nat.le_of_lt (small1000 (by rw [List.length_map]; show p.2.length + 1 ≤ 1000; omega)), fun e => ?_, fun _ e => (by cases e), fun _ _ u hu => ?_⟩⟩
  · have e2 : p.2 = [] := List.map_eq_nil_iff.mp e
    have h3 : CsL (upd H2 t (.tup [.int x])) D gs := hg.same (Same.new ht)
    have ht3 : Tp (upd H2 t (.tup [.int x])) t (p.2 ++ [x]) := by rw [e2]; exact upd_same
    exact fin t _ (Same.put hD (Same.put (s2.free ht) s2)) (h3.push ht3) h3.1
  · have s3 : Same H2 (upd (upd H2 t (.tup [.int x])) u (.tup (p.2.map V.int ++ [.int x]))) := (Same.new ht).trans (Same.new hu)
    have h3 := hg.same s3
    have ht3 : Tp (upd (upd H2 t (.tup [.int x])) u (.tup (p.2.map V.int ++ [.int x]))) u (p.2 ++ [x]) := by rw [Tp, upd_same, List.map_append]; rfl
    exact fin u _ (Same.put hD (s2.trans s3)) (h3.push ht3) h3.1
theorem cal_assignments {f : Addr} {fd : FuncData} (T : Txt mg) (F : C8.Def K mg "_law_assignments" sAssignments f fd) (b : Binds K fd ["_law_n"] []) : C8.Cal P w K mg base 1 "_law_assignments" spAssignments [] := by
  refine C8.cal0 F b .nil scAssignments (fun vs H Q E h => ?_) (fun cdv A outer s H vs Q E hr h => ?_)
  · obtain ⟨n, rfl, _⟩ := h
    rfl
  · obtain ⟨n, rfl, hn, k⟩ := h
    have nd := scAssignments.nd
    refine ⟨_, pss_cons (ps_set (i := 1) nd rfl (Or.inl rfl) (pe_lst (pa_cons (pe_tup pa_nil) pa_nil)))
      (pss_cons (ps_for PassesOwn.never rfl (pi_range2 (by rfl) T.range (pa_cons pe_int (pa_cons (pe_op op_add (pv 0) pe_int) pa_nil))) (pg_name (i := 2) nd rfl (Or.inr rfl))
        (pss_one (ps_set (i := 1) nd rfl (Or.inl rfl) (pe_op op_cat
          (pe_lc (own := [("_law_cube", 3)]) (g := gName 3) (tt := tYes) (by rfl) nd (pi_list (pv 1)) (blkOk_by (N := nAssignments) (sc := C8.fnScope sAssignments) (by decide +kernel)) (fun _ _ _ _ _ => pg_name (i := 3) nd rfl (Or.inl rfl)) (fun _ _ _ _ _ => pts_nil) (fun _ _ _ _ _ => pe_op (op_catAK (K := K) rfl) (pv 3) (pe_tup (pa_cons (pv 2) pa_nil))))
          (pe_lc (own := [("_law_cube", 3)]) (g := gName 3) (tt := tYes) (by rfl) nd (pi_list (pv 1)) (blkOk_by (N := nAssignments) (sc := C8.fnScope sAssignments) (by decide +kernel)) (fun _ _ _ _ _ => pg_name (i := 3) nd rfl (Or.inl rfl)) (fun _ _ _ _ _ => pts_nil) (fun _ _ _ _ _ => pe_op (op_catAK (K := K) rfl) (pv 3) (pe_tup (pa_cons (pe_un un_neg (pv 2)) pa_nil))))))))
      (pss_one (ps_ret (pe_lc (own := [("_law_cube", 3)]) (g := gName 3) (tt := tYes) (by rfl) nd (pi_list (pv 1)) (blkOk_by (N := nAssignments) (sc := C8.fnScope sAssignments) (by decide +kernel)) (fun _ _ _ _ _ => pg_name (i := 3) nd rfl (Or.inl rfl)) (fun _ _ _ _ _ => pts_nil)
        (fun _ _ _ _ _ => pe_callTy (call_tupK (K := K) rfl) (by rfl) T.tuple (by decide +kernel) (pa_cons (pe_callB (cr_sortBK (K := K) rfl) (by rfl) T.sorted (by decide +kernel) (pa_cons (pv 3) pa_nil)) pa_nil)))))), ?_⟩
    refine ⟨Nat.zero_le _, fun e he => ⟨(by show 1 ≤ sizeLine; decide), fun q hq => ?_⟩⟩
    have s0 : Same H (upd H e (.tup [])) := Same.new he
    have s1 := Same.put (o := .lst [V.ref e]) (s0.free hq) s0
    refine ⟨_, rfl, _, _, rfl, rfl, 1, n + 1, rfl, by omega, ?_⟩
    rw [show ((n : Int) + 1 - 1).toNat = n by omega]
    refine for_range (lo := 1) (n := n) (fun i σ H1 => ∃ (fs : List (Addr × List Int)) (q : Addr) (v2 : Option V), σ = [some (.int n), some (.ref q), v2, none] ∧ Same H H1 ∧ CsL H1 q fs ∧ cls fs = asg i)
      ⟨[(e, [])], q, none, rfl, s1, ⟨upd_same, fun p hp => by rw [List.mem_singleton.mp hp]; exact Same.new hq _ _ upd_same⟩, rfl⟩ ?_ ?_
    · rintro i σ H1 hi ⟨fs, q1, v2, rfl, t1, hfs, ef⟩
      have lfs : fs.length ≤ 32 := by
        have := asg_short (n := i) (by omega)
        rw [← ef, cls_len] at this
        exact this
      have lit : ∀ {j : Nat} {p : Addr × List Int}, fs[j]? = some p → p.2.length ≤ 5 := fun {j p} hp => by
        have h1 : p.2 ∈ asg i := by rw [← ef]; exact List.mem_map.mpr ⟨p, List.mem_of_getElem? hp, rfl⟩
        have := (asg_ok i p.2 h1).2.2
        omega
      refine ⟨_, rfl, q1, rfl, ⟨_, SqL.of hfs.1⟩, fun D hD => ?_⟩
      refine lc_list (K := K) (a := q1) (xs := rfs fs) (fun j H2 => ∃ gs : List (Addr × List Int), CsL H2 D gs ∧ cls gs = ((cls fs).take j).map (fun c => c ++ [1 + (i : Int)]) ∧ gs.length = j ∧ Same H1 H2)
        ⟨[], ⟨upd_same, fun p hp => by cases hp⟩, rfl, rfl, Same.new hD⟩ (fun j H2 _ ⟨_, _, _, _, e⟩ => SqL.of (e _ _ hfs.1)) ?_ ?_
      · rintro j x H2 hj ⟨gs, hg, eg, lg, s2⟩
        obtain ⟨p, hp, rfl⟩ := ref_at hj
        have hjl : j < fs.length := (List.getElem?_eq_some_iff.mp hp).1
        have hpt := s2 _ _ (hfs.2 p (List.mem_of_getElem? hp))
        have hpc : (cls fs)[j]? = some p.2 := by rw [List.getElem?_map, hp]; rfl
        exact ⟨rfl, _, rfl, _, rfl, half_turn (K := K) (q := q1) hD hp hpt s2 hg eg lg (by omega) (lit hp) fun u H4 s4 h4 hd4 => ⟨_, hd4, small1000 (by rw [rfs_len]; omega), gs ++ [(u, p.2 ++ [1 + (i : Int)])], h4, by rw [cls_push, eg, take_snoc hpc, List.map_append]; rfl, by rw [List.length_append, lg]; rfl, s4⟩⟩
      · rintro H2 ⟨gs, hg, eg, lg, s2⟩
        rw [rfs_len, ← cls_len, List.take_length] at eg
        have t2 := t1.trans s2
        have hfs2 := hfs.same s2
        refine ⟨_, rfl, q1, rfl, ⟨_, SqL.of hfs2.1⟩, fun D2 hD2 => ?_⟩
        refine lc_list (K := K) (a := q1) (xs := rfs fs) (fun j H3 => ∃ gs : List (Addr × List Int), CsL H3 D2 gs ∧ cls gs = ((cls fs).take j).map (fun c => c ++ [-(1 + (i : Int))]) ∧ gs.length = j ∧ Same H2 H3)
          ⟨[], ⟨upd_same, fun p hp => by cases hp⟩, rfl, rfl, Same.new hD2⟩ (fun j H3 _ ⟨_, _, _, _, e⟩ => SqL.of (e _ _ hfs2.1)) ?_ ?_
        · rintro j x H3 hj ⟨gs3, hg3, eg3, lg3, s3⟩
          obtain ⟨p, hp, rfl⟩ := ref_at hj
          have hjl : j < fs.length := (List.getElem?_eq_some_iff.mp hp).1
          have hpt := s3 _ _ (hfs2.2 p (List.mem_of_getElem? hp))
          have hpc : (cls fs)[j]? = some p.2 := by rw [List.getElem?_map, hp]; rfl
          exact ⟨rfl, _, rfl, _, rfl, _, rfl, half_turn (K := K) (q := q1) hD2 hp hpt s3 hg3 eg3 lg3 (by omega) (lit hp) fun u H4 s4 h4 hd4 => ⟨_, hd4, small1000 (by rw [rfs_len]; omega), gs3 ++ [(u, p.2 ++ [-(1 + (i : Int))])], h4, by rw [cls_push, eg3, take_snoc hpc, List.map_append]; rfl, by rw [List.length_append, lg3]; rfl, s4⟩⟩
        · rintro H3 ⟨gs3, hg3, eg3, lg3, s3⟩
          rw [rfs_len, ← cls_len, List.take_length] at eg3
          have hg2 := hg.same s3
          rw [rfs_len] at lg lg3
          refine ⟨D, D2, _, _, rfl, rfl, hg2.1, hg3.1, Nat.le_of_lt (small1000 (by rw [rfs_len, rfs_len]; omega)), fun u hu => ?_⟩
          have t3 := t2.trans s3
          refine ⟨gs ++ gs3, u, _, rfl, Same.put (t3.free hu) t3, ⟨by rw [upd_same]; simp [rfs], fun m hm => ?_⟩, ?_⟩
          · rcases List.mem_append.mp hm with hm | hm
            · exact Same.new hu _ _ (hg2.2 m hm)
            · exact Same.new hu _ _ (hg3.2 m hm)
          · have e1 : cls (gs ++ gs3) = cls gs ++ cls gs3 := by simp [cls]
            rw [e1, eg, eg3, ef, show (1 + (i : Int)) = ((i + 1 : Nat) : Int) by omega]
            rfl
    · rintro σ H1 ⟨fs, q1, v2, rfl, t1, hfs, ef⟩
      have lfs : fs.length ≤ 32 := by
        have := asg_short (n := n) hn
        rw [← ef, cls_len] at this
        exact this
      refine ⟨_, rfl, q1, rfl, ⟨_, SqL.of hfs.1⟩, fun D hD => ?_⟩
      refine lc_list (K := K) (a := q1) (xs := rfs fs) (fun j H2 => ∃ zs : List (Addr × List Int), CsL H2 D zs ∧ (∀ Z ∈ cls zs, Total n Z) ∧ (∀ U ∈ (asg n).take j, ∃ Z ∈ cls zs, Z.Perm U) ∧ zs.length = j ∧ Same H1 H2)
        ⟨[], ⟨upd_same, fun p hp => by cases hp⟩, (fun Z hZ => by cases hZ), (fun U hU => by simp at hU), rfl, Same.new hD⟩ (fun j H2 _ ⟨_, _, _, _, _, e⟩ => SqL.of (e _ _ hfs.1)) ?_ ?_
      · rintro j x H2 hj ⟨zs, hz, h1, h2, lz, s2⟩
        obtain ⟨p, hp, rfl⟩ := ref_at hj
        have hjl : j < fs.length := (List.getElem?_eq_some_iff.mp hp).1
        have hpt := s2 _ _ (hfs.2 p (List.mem_of_getElem? hp))
        have hpc : (asg n)[j]? = some p.2 := by rw [← ef, List.getElem?_map, hp]; rfl
        have hpm := asg_item hpc
        have hpl := (asg_ok n p.2 hpm).2.2
        refine ⟨rfl, _, rfl, p.1, p.2, rfl, .inr (SqT.of hpt), by omega, fun c t pc hsc ht => ⟨t, _, rfl, .inl ⟨SqL.of upd_same, fun u hu => ?_⟩⟩⟩
        have s3 : Same H2 (upd (upd H2 t (.lst (c.map V.int))) u (.tup (c.map V.int))) := (Same.new ht).trans (Same.new hu)
        have hz3 := hz.same s3
        refine ⟨_, hz3.1, small1000 (by rw [rfs_len]; omega), zs ++ [(u, c)], hz3.push upd_same, fun Z hZ => ?_, fun U hU => ?_, by rw [List.length_append, lz]; rfl, Same.put hD (s2.trans s3)⟩
        · rw [cls_push] at hZ
          rcases List.mem_append.mp hZ with hZ | hZ
          · exact h1 Z hZ
          · rw [List.mem_singleton.mp hZ]
            exact asg_total hpm pc hsc
        · rw [take_snoc hpc] at hU
          rw [cls_push]
          rcases List.mem_append.mp hU with hU | hU
          · obtain ⟨Z, a1, a2⟩ := h2 U hU
            exact ⟨Z, List.mem_append_left _ a1, a2⟩
          · rw [List.mem_singleton.mp hU]
            exact ⟨c, List.mem_append_right _ (List.mem_singleton.mpr rfl), pc⟩
      · rintro H2 ⟨zs, hz, h1, h2, lz, s2⟩
        rw [rfs_len, ← cls_len, ef, List.take_length] at h2
        rw [rfs_len] at lz
        exact k H2 D zs (t1.trans s2) hz (fun T => ⟨h1 T, asg_has h1 h2⟩) (by omega)
abbrev nMeets : List Str := ["_law_cube", "_law_clause", "_law_literal"]
theorem scMeets : FnScope nMeets ["_law_cube", "_law_clause"] (C8.fnScope sMeets) := C8.fnScope_by (by decide +kernel)
theorem cal_meets {f : Addr} {fd : FuncData} (T : Txt mg) (F : C8.Def K mg "_law_meets" sMeets f fd) (b : Binds K fd ["_law_cube", "_law_clause"] []) : C8.Cal P w K mg base 1 "_law_meets" spMeets [] := by
  refine C8.cal0 F b .nil scMeets (fun vs H Q E h => ?_) (fun cdv A outer s H vs Q E hr h => ?_)
  · obtain ⟨t, c, U, cl, rfl, _⟩ := h
    rfl
  · obtain ⟨t, c, U, cl, rfl, hT, hC, hl, k⟩ := h
    have nd := scMeets.nd
    refine ⟨_, pss_one (ps_ret (pe_cmpR op_gt (pe_callB call_len_seq (by rfl) T.len PySem.boot_len (pa_cons
      (pe_lc (own := [("_law_literal", 2)]) (g := gName 2) (by rfl) nd (pi_tup (pv 1)) (blkOk_by (N := nMeets) (sc := C8.fnScope sMeets) (by decide +kernel)) (fun _ _ _ _ _ => pg_name (i := 2) nd rfl (Or.inl rfl))
        (fun _ _ _ _ _ => pts_one (pt_cmpR (op_inK (K := K) rfl) (pv 2) (pv 0) rfl)) (fun _ _ _ _ _ => pv 2)) pa_nil)) pe_int (nomark _))), ?_⟩
    refine ⟨_, rfl, c, rfl, ⟨_, SqT.of hC⟩, fun D hD => ?_⟩
    refine lc_tup (K := K) (a := c) (xs := cl.map V.int) (fun i H1 => ∃ ls : List Int, H1 = upd H D (.lst (ls.map V.int)) ∧ ls.length ≤ i ∧ (0 < ls.length ↔ ∃ l ∈ cl.take i, l ∈ U)) ⟨[], rfl, Nat.le_refl _, by simp⟩
      (fun i H1 _ ⟨_, e, _⟩ => by rw [e]; exact SqT.of (by rw [upd_ne (ne_of_none hC hD)]; exact hC)) ?_ ?_
    · rintro i x H1 hi ⟨ls, rfl, h1, h2⟩
      obtain ⟨z, hz, rfl⟩ := int_at hi
      have hil : i < cl.length := (List.getElem?_eq_some_iff.mp hz).1
      have hT1 : upd H D (.lst (ls.map V.int)) t = some (.tup (U.map V.int)) := by rw [upd_ne (ne_of_none hT hD)]; exact hT
      refine ⟨rfl, _, rfl, _, rfl, t, _, rfl, .inr (SqT.of hT1), rfl, flat_ints U, _, rfl, ?_⟩
      rw [if_neg Bool.false_ne_true, inV_ints]
      by_cases hm : z ∈ U
      · rw [decide_eq_true hm]
        refine iteT ⟨_, rfl, _, upd_same, small1000 (by rw [List.length_map]; omega), ls ++ [z], by rw [upd_upd, List.map_append]; rfl, by rw [List.length_append, List.length_singleton]; omega, ?_⟩
        rw [take_snoc hz]
        exact ⟨fun _ => ⟨z, List.mem_append_right _ (List.mem_singleton.mpr rfl), hm⟩, fun _ => by rw [List.length_append]; show 0 < ls.length + 1; omega⟩
      · rw [decide_eq_false hm]
        refine iteF ⟨ls, rfl, by omega, h2.trans ?_⟩
        rw [take_snoc hz]
        constructor
        · rintro ⟨l, a1, a2⟩
          exact ⟨l, List.mem_append_left _ a1, a2⟩
        · rintro ⟨l, a1, a2⟩
          rcases List.mem_append.mp a1 with a1 | a1
          · exact ⟨l, a1, a2⟩
          · rw [List.mem_singleton.mp a1] at a2
            exact absurd a2 hm
    · rintro H1 ⟨ls, rfl, h1, h2⟩
      rw [List.length_map, List.take_length] at h2
      refine ⟨D, _, rfl, .inl (SqL.of upd_same), _, _, rfl, rfl, k _ _ (Same.new hD) ?_⟩
      rw [List.length_map, decide_eq_true_eq]
      exact ⟨fun h => h2.mp (by omega), fun h => by have := h2.mpr h; omega⟩
end
end Rb
/-! ## D13 -/
namespace Rb
open PySem L2
section
variable {P : Program} {w : World} {K : PySem.W.Frag} {mg : Str → Option Value} {base : Heap}
abbrev nModels : List Str := ["_law_formula_here", "_law_found", "_law_cube", "_law_clause"]
theorem scModels : FnScope nModels ["_law_formula_here"] (C8.fnScope sModels) := C8.fnScope_by (by decide +kernel)
theorem cal_models {f : Addr} {fd : FuncData} (T : Txt mg) (F : C8.Def K mg "_law_models" sModels f fd) (b : Binds K fd ["_law_formula_here"] [])
    (cA : C8.Cal P w K mg base 1 "_law_assignments" spAssignments []) (cM : C8.Cal P w K mg base 1 "_law_meets" spMeets []) : C8.Cal P w K mg base 2 "_law_models" spModels [] := by
  refine C8.cal0 F b .nil scModels (fun vs H Q E h => ?_) (fun cdv A outer s H vs Q E hr h => ?_)
  · obtain ⟨f, n, ks, rfl, _⟩ := h
    rfl
  · obtain ⟨f, n, ks, rfl, ⟨cl, hf, hcl⟩, hn, hcs, hlen, k⟩ := h
    have nd := scModels.nd
    refine ⟨_, pss_cons (ps_set (i := 1) nd rfl (Or.inl rfl) (pe_lst pa_nil))
      (pss_cons (ps_for PassesOwn.never rfl (pi_list (C8.pe_c cA hr (by decide) rfl (pa_cons (pe_ix ix_tup (pv 0) pe_int (fun _ _ => rfl)) pa_nil))) (pg_name (i := 2) nd rfl (Or.inr rfl))
        (pss_one (ps_if (pt_cmpR op_eq (pe_callB call_len_seq (by rfl) T.len PySem.boot_len (pa_cons
          (pe_lc (own := [("_law_clause", 3)]) (g := gName 3) (by rfl) nd (pi_tup (pe_ix ix_tup (pv 0) pe_int (fun _ _ => rfl))) (blkOk_by (N := nModels) (sc := C8.fnScope sModels) (by decide +kernel)) (fun _ _ _ _ _ => pg_name (i := 3) nd rfl (Or.inl rfl))
            (fun _ _ _ _ _ => pts_one (pt_not (pt_val (C8.pe_c cM hr (by decide) rfl (pa_cons (pv 2) (pa_cons (pv 3) pa_nil)))))) (fun _ _ _ _ _ => pv 3)) pa_nil)) pe_int (nomark _))
          (pss_one (ps_expr (pe_bm PySem.F.plainAttrs_list PySem.F.slot_list_append PySem.F.type_list_append mt_append (pv 1) (pa_cons (pv 2) pa_nil)))) pss_nil)))
      (pss_one (ps_ret (pv 1)))), ?_⟩
    refine ⟨Nat.zero_le _, fun q hq => ?_⟩
    have s0 : Same H (upd H q (.lst [])) := Same.new hq
    refine ⟨_, rfl, f, _, 0, .int n, rfl, rfl, SqT.of (s0 _ _ hf), atI_nat (j := 0) rfl, n, rfl, hn, fun H1 z zs s1 hz hzt hzl => ?_⟩
    have s01 := s0.trans s1
    refine ⟨z, rfl, ⟨_, SqL.of hz.1⟩, for_list (K := K) (a := z) (xs := rfs zs) (fun i σ H2 => ∃ (ms : List (Addr × List Int)) (v2 : Option V), σ = [some (.ref f), some (.ref q), v2, none] ∧ Same H H2 ∧ CsL H2 z zs ∧ CsL H2 q ms ∧ z ≠ q ∧ ms.length ≤ i ∧ ∀ U : List Int, U ∈ cls ms ↔ U ∈ (cls zs).take i ∧ ∀ c ∈ cls ks, Meets U c)
      ⟨[], none, rfl, s01, hz, ⟨s1 _ _ upd_same, fun p hp => by cases hp⟩, ?_, Nat.le_refl _, fun U => by simp [cls]⟩ (fun i σ H2 _ ⟨_, _, _, _, e, _⟩ => SqL.of e.1) ?_ ?_⟩
    · -- the list of assignments is not the list found
      intro e
      subst e
      have h1 := hz.1
      rw [s1 _ _ upd_same] at h1
      have h2 : zs = [] := by
        have := Option.some.inj h1
        injection this with this
        exact List.map_eq_nil_iff.mp this.symm
      obtain ⟨U, hU⟩ : ∃ U, U ∈ asg n := List.exists_mem_of_length_pos (by rw [asg_len]; exact Nat.pow_pos (by decide))
      have : ∃ Z : List Int, Total n Z := by
        obtain ⟨a1, a2, _⟩ := asg_ok n U hU
        exact ⟨U.mergeSort (fun x y => decide (x ≤ y)), asg_total hU (List.mergeSort_perm _ _) (by
          have := List.pairwise_mergeSort (le := fun x y : Int => decide (x ≤ y)) (fun a b c h1 h2 => by simp only [decide_eq_true_eq] at *; omega) (fun a b => by simp only [Bool.or_eq_true, decide_eq_true_eq]; omega) U
          exact this.imp fun h => of_decide_eq_true h)⟩
      obtain ⟨Z, hZ⟩ := this
      have := (hzt Z).mpr hZ
      rw [h2] at this
      cases this
    · rintro i x σ H2 hi ⟨ms, v2, rfl, s2, hz2, hms, hzq, hml, hmm⟩
      obtain ⟨p, hp, rfl⟩ := ref_at hi
      have hpm := List.mem_of_getElem? hp
      have hil : i < zs.length := (List.getElem?_eq_some_iff.mp hp).1
      have hpt : Tp H2 p.1 p.2 := hz2.2 p hpm
      have hpc : (cls zs)[i]? = some p.2 := by rw [List.getElem?_map, hp]; rfl
      have hf2 := s2 _ _ hf
      have hcl2 := hcl.same s2
      refine ⟨_, rfl, f, _, 1, .ref cl, rfl, rfl, SqT.of hf2, atI_nat (j := 1) rfl, cl, rfl, ⟨_, SqT.of hcl2.1⟩, fun D hD => ?_⟩
      have hqD : q ≠ D := ne_of_none hms.1 hD
      refine lc_tup (K := K) (a := cl) (xs := rfs ks) (fun j H3 => ∃ bad : List (Addr × List Int), H3 D = some (.lst (rfs bad)) ∧ Same H2 H3 ∧ bad.length ≤ j ∧ (bad.length = 0 ↔ ∀ c ∈ (cls ks).take j, Meets p.2 c))
        ⟨[], upd_same, Same.new hD, Nat.le_refl _, by simp⟩ (fun j H3 _ ⟨_, _, e, _⟩ => SqT.of (e _ _ hcl2.1)) ?_ ?_
      · rintro j x H3 hj ⟨bad, hbD, s3, hbl, hbm⟩
        obtain ⟨m, hm, rfl⟩ := ref_at hj
        have hmm' := List.mem_of_getElem? hm
        have hjl : j < ks.length := (List.getElem?_eq_some_iff.mp hm).1
        have hmt : Tp H3 m.1 m.2 := s3 _ _ (hcl2.2 m hmm')
        have hmc : Clause n m.2 := hcs m.2 (List.mem_map.mpr ⟨m, hmm', rfl⟩)
        have hmj : (cls ks)[j]? = some m.2 := by rw [List.getElem?_map, hm]; rfl
        have hml' := lits_len n m.2 hmc.lits
        refine ⟨rfl, _, rfl, _, rfl, p.1, m.1, p.2, m.2, rfl, s3 _ _ hpt, hmt, by omega, fun H4 bb s4 hb => ⟨_, rfl, ?_⟩⟩
        have hb4 := s4 _ _ hbD
        cases bb with
        | true =>
          refine iteF ⟨bad, hb4, s3.trans s4, by omega, hbm.trans ?_⟩
          rw [take_snoc hmj]
          exact ⟨fun h c hc => by
            rcases List.mem_append.mp hc with hc | hc
            · exact h c hc
            · rw [List.mem_singleton.mp hc]
              exact hb.mp rfl, fun h c hc => h c (List.mem_append_left _ hc)⟩
        | false =>
          refine iteT ⟨_, rfl, rfs bad, hb4, small1000 (by rw [rfs_len]; omega), bad ++ [m], by rw [upd_same]; simp [rfs], Same.put hD (s3.trans s4), by rw [List.length_append, List.length_singleton]; omega, ?_⟩
          rw [List.length_append, List.length_singleton, take_snoc hmj]
          exact ⟨fun h => by omega, fun h => by
            have := hb.mpr (h m.2 (List.mem_append_right _ (List.mem_singleton.mpr rfl)))
            cases this⟩
      · rintro H3 ⟨bad, hbD, s3, hbl, hbm⟩
        rw [rfs_len, ← cls_len ks, List.take_length] at hbm
        have hms3 := hms.same s3
        refine ⟨D, _, rfl, .inl (SqL.of hbD), rfl, _, rfl, ?_⟩
        rw [dec_ii, rfs_len]
        have tk : (cls zs).take (i + 1) = (cls zs).take i ++ [p.2] := take_snoc hpc
        by_cases h0 : (bad.length : Int) = 0
        · rw [decide_eq_true h0]
          have hall := hbm.mp (by omega)
          refine iteT ⟨_, rfl, .inl ⟨rfl, _, SqL.of hms3.1⟩, _, rfl, q, _, _, rfl, rfl, hms3.1, small1000 (by rw [rfs_len]; omega), ?_⟩
          refine ⟨ms ++ [(p.1, p.2)], _, rfl, Same.put hq (s2.trans s3), ⟨by rw [upd_ne hzq]; exact s3 _ _ hz2.1, fun m hm => ?_⟩, hms3.push (s3 _ _ hpt), hzq, by rw [List.length_append, List.length_singleton]; omega, fun U => ?_⟩
          · have e := s3 _ _ (hz2.2 m hm)
            rw [Tp, upd_ne (tup_ne e hms3.1)]
            exact e
          · rw [cls_push, tk, List.mem_append, List.mem_append, hmm, List.mem_singleton]
            constructor
            · rintro (⟨a1, a2⟩ | rfl)
              · exact ⟨.inl a1, a2⟩
              · exact ⟨.inr rfl, hall⟩
            · rintro ⟨a1 | a1, a2⟩
              · exact .inl ⟨a1, a2⟩
              · exact .inr a1
        · rw [decide_eq_false h0]
          refine iteF ⟨ms, _, rfl, s2.trans s3, hz2.same s3, hms3, hzq, by omega, fun U => ?_⟩
          rw [tk, List.mem_append, hmm, List.mem_singleton]
          constructor
          · rintro ⟨a1, a2⟩
            exact ⟨.inl a1, a2⟩
          · rintro ⟨a1 | rfl, a2⟩
            · exact ⟨a1, a2⟩
            · exact absurd (show (bad.length : Int) = 0 by have := hbm.mpr a2; omega) h0
    · rintro σ H2 ⟨ms, v2, rfl, s2, hz2, hms, hzq, hml, hmm⟩
      rw [rfs_len] at hml
      rw [rfs_len, ← cls_len zs, List.take_length] at hmm
      exact ⟨_, rfl, k H2 q ms s2 hms (fun U => (hmm U).trans (and_congr (hzt U) Iff.rfl)) (by omega)⟩
abbrev nOpposite : List Str := ["_law_clause", "_law_literal"]
theorem scOpposite : FnScope nOpposite ["_law_clause"] (C8.fnScope sOpposite) := C8.fnScope_by (by decide +kernel)
theorem negs_take' {ns : List Int} {i : Nat} {z : Int} (h : ns[i]? = some z) : negs (ns.take (i + 1)) = negs (ns.take i) ++ [-z] := by
  rw [take_snoc h]
  unfold negs
  rw [List.map_append]
  rfl
theorem negs_len' (ns : List Int) : (negs ns).length = ns.length := List.length_map ..
theorem cal_opposite {f : Addr} {fd : FuncData} (T : Txt mg) (F : C8.Def K mg "_law_opposite" sOpposite f fd) (b : Binds K fd ["_law_clause"] []) : C8.Cal P w K mg base 1 "_law_opposite" spOpposite [] := by
  refine C8.cal0 F b .nil scOpposite (fun vs H Q E h => ?_) (fun cdv A outer s H vs Q E hr h => ?_)
  · obtain ⟨a, ns, rfl, _⟩ := h
    rfl
  · obtain ⟨a, ns, rfl, ha, hl, k⟩ := h
    have nd := scOpposite.nd
    refine ⟨_, pss_one (ps_ret (pe_callTy call_tuple_of (by rfl) T.tuple (by decide +kernel) (pa_cons (pe_callB cr_sorted (by rfl) T.sorted (by decide +kernel) (pa_cons
      (pe_lc (own := [("_law_literal", 1)]) (g := gName 1) (tt := tYes) (by rfl) nd (pi_tup (pv 0)) (blkOk_by (N := nOpposite) (sc := C8.fnScope sOpposite) (by decide +kernel)) (fun _ _ _ _ _ => pg_name (i := 1) nd rfl (Or.inl rfl))
      (fun _ _ _ _ _ => pts_nil) (fun _ _ _ _ _ => pe_un un_neg (pv 1))) pa_nil)) pa_nil))), ?_⟩
    refine ⟨_, rfl, a, rfl, ⟨_, SqT.of ha⟩, fun D hD => ?_⟩
    refine lc_tup (K := K) (a := a) (xs := ns.map V.int) (fun i H1 => H1 = upd H D (.lst ((negs (ns.take i)).map V.int))) rfl (fun i H1 _ e => by rw [e]; exact SqT.of (by rw [upd_ne (ne_of_none ha hD)]; exact ha)) ?_ ?_
    · rintro i x H1 hi rfl
      obtain ⟨z, hz, rfl⟩ := int_at hi
      refine ⟨rfl, _, rfl, z, rfl, _, upd_same, small1000 (by rw [List.length_map, negs_len', List.length_take]; omega), ?_⟩
      rw [upd_upd, negs_take' hz, List.map_append]
      rfl
    · rintro H1 rfl
      rw [List.length_map, List.take_length]
      refine ⟨D, _, rfl, SqL.of upd_same, by rw [negs_len']; exact hl, fun c p pc hsc hp => ?_⟩
      have s1 : Same H (upd H D (.lst ((negs ns).map V.int))) := Same.new hD
      have s2 := Same.put (o := .lst (c.map V.int)) (s1.free hp) s1
      refine ⟨p, _, rfl, .inl ⟨SqL.of upd_same, fun q hq => ?_⟩⟩
      exact k _ q c (Same.put (s2.free hq) s2) upd_same pc hsc
theorem scAtOnce : FnScope ["_law_formula_here", "_law_more", "_law_clause"] ["_law_formula_here", "_law_more", "_law_clause"] (C8.fnScope sAtOnce) := C8.fnScope_by (by decide +kernel)
theorem Lits.negs {n : Int} {A : List Int} (h : Lits n A) : Lits n (negs A) :=
  ⟨by unfold Rb.negs; exact List.pairwise_map.mpr (h.nod.imp fun a e => a (by omega)), fun l hl q => h.con _ (mem_negs.mp hl) (mem_negs.mp q), fun l hl => by have := h.rng _ (mem_negs.mp hl); omega⟩
theorem cal_at_once {f : Addr} {fd : FuncData} (F : C8.Def K mg "_law_at_once" sAtOnce f fd) (b : Binds K fd ["_law_formula_here", "_law_more", "_law_clause"] [])
    (cP : C8.Cal P w K mg base 1 "_law_pushed" spPushed []) (cO : C8.Cal P w K mg base 1 "_law_opposite" spOpposite []) : C8.Cal P w K mg base 2 "_law_at_once" spAtOnce [] := by
  refine C8.cal0 F b .nil scAtOnce (fun vs H Q E h => ?_) (fun cdv A outer s H vs Q E hr h => ?_)
  · obtain ⟨f, m, c, n, ks, ms, cl, rfl, _⟩ := h
    rfl
  · obtain ⟨f, m, c, n, ks, ms, cl, rfl, hF, hM, hC, hn, h1, h2, hl, hc, hcon, k⟩ := h
    have hsh := lits_len n cl hc.lits
    refine ⟨_, pss_one (ps_ret (pe_cmpR op_isN (C8.pe_c cP hr (by decide) rfl (pa_cons (pv 0) (pa_cons (pv 1) (pa_cons (C8.pe_c cO hr (by decide) rfl (pa_cons (pv 2) pa_nil)) pa_nil)))) pe_non (nomark _))), ?_⟩
    refine ⟨_, rfl, _, rfl, _, rfl, c, cl, rfl, hC, by omega, fun H1 q d s1 hq pd hsd => ?_⟩
    refine ⟨f, m, q, n, ks, ms, d, rfl, hF.same s1, hM.same s1, hq, hn, h1, h2, hl, hc.lits.negs.perm pd, contra_congr (fun _ x => x) (fun l hl => pd.mem_iff.mpr hl) hcon, fun H2 s2 => ⟨rfl, ?_⟩⟩
    exact k H2 (s1.trans s2)
abbrev nPushed : List Str := ["_law_formula_here", "_law_more", "_law_cube", "_law_found", "_law_turn", "_law_next_one", "_law_clause", "_law_literal", "_law_rest"]
theorem scPushed : FnScope nPushed ["_law_formula_here", "_law_more", "_law_cube"] (C8.fnScope sPushed) := C8.fnScope_by (by decide +kernel)
theorem cal_pushed {f : Addr} {fd : FuncData} (T : Txt mg) (F : C8.Def K mg "_law_pushed" sPushed f fd) (b : Binds K fd ["_law_formula_here", "_law_more", "_law_cube"] []) : C8.Cal P w K mg base 1 "_law_pushed" spPushed [] := by
  refine C8.cal0 F b .nil scPushed (fun vs H Q E h => ?_) (fun cdv A outer s H vs Q E hr h => ?_)
  · obtain ⟨f, m, c, n, ks, ms, ns, rfl, _⟩ := h
    rfl
  · obtain ⟨f, m, c, n, ks, ms, ns, rfl, ⟨cl, hf, hcl⟩, hM, hC, hn, hks, hms, hlen, hns, hcon, k⟩ := h
    have nd := scPushed.nd
    have hcs : Clauses n (cls (ks ++ ms)) := by
      rw [show cls (ks ++ ms) = cls ks ++ cls ms by simp [cls]]
      exact hks.app hms
    rw [show cls ks ++ cls ms = cls (ks ++ ms) by simp [cls]] at hcon
    refine ⟨_, pss_cons (ps_set (i := 3) nd rfl (Or.inr rfl) (pe_callTy call_list_of (by rfl) T.list (by decide +kernel) (pa_cons (pv 2) pa_nil)))
      (pss_cons (ps_for PassesOwn.never rfl (pi_range1 (by rfl) T.range (pa_cons pe_int pa_nil)) (pg_name (i := 4) nd rfl (Or.inl rfl))
        (pss_cons (ps_set (i := 5) nd rfl (Or.inl rfl) pe_non)
        (pss_cons (ps_for PassesOwn.never rfl (pi_list (pe_op op_cat (pe_callTy call_list_of (by rfl) T.list (by decide +kernel) (pa_cons (pe_ix ix_tup (pv 0) pe_int (fun _ _ => rfl)) pa_nil)) (pv 1))) (pg_name (i := 6) nd rfl (Or.inl rfl))
          (pss_cons (ps_setLc (i := 8) (own := [("_law_literal", 7)]) (g := gName 7) (by rfl) nd rfl rfl (sw_true rfl rfl rfl (by decide +kernel)) (pi_tup (pv 6)) (blkOk_by (N := nPushed) (sc := C8.fnScope sPushed) (by decide +kernel)) (fun _ _ _ _ _ => pg_name (i := 7) nd rfl (Or.inl rfl))
            (fun _ _ _ _ _ => pts_one (pt_cmpR (op_notInK (K := K) rfl) (pe_un un_neg (pv 7)) (pv 3) rfl)) (fun _ _ _ _ _ => pv 7))
          (pss_cons (ps_if (pt_cmpR op_eq (pe_callB call_len_seq (by rfl) T.len PySem.boot_len (pa_cons (pv 8) pa_nil)) pe_int (nomark _)) (pss_one (ps_ret pe_non)) pss_nil)
          (pss_one (ps_if (PW.pt (pw_and (pt_cmpR op_eq (pe_callB call_len_seq (by rfl) T.len PySem.boot_len (pa_cons (pv 8) pa_nil)) pe_int (nomark _)) (pw_and1 (pt_cmpR op_notIn_seq (pe_ix ix_list (pv 8) pe_int (fun _ _ => rfl)) (pv 3) rfl))))
            (pss_one (ps_set (i := 5) nd rfl (Or.inl rfl) (pe_ix ix_list (pv 8) pe_int (fun _ _ => rfl)))) pss_nil)))))
        (pss_cons (ps_if (pt_cmpR op_isN (pv 5) pe_non (nomark _)) (pss_one (ps_ret (pe_callTy call_tuple_of (by rfl) T.tuple (by decide +kernel) (pa_cons (pe_callB cr_sorted (by rfl) T.sorted (by decide +kernel) (pa_cons (pv 3) pa_nil)) pa_nil)))) pss_nil)
        (pss_one (ps_expr (pe_bm PySem.F.plainAttrs_list PySem.F.slot_list_append PySem.F.type_list_append mt_append (pv 3) (pa_cons (pv 5) pa_nil))))))))
      (pss_one (ps_ret pe_non))), ?_⟩
    refine ⟨_, rfl, c, _, rfl, .inr (SqT.of hC), fun d hd => ?_⟩
    refine ⟨60, rfl, by decide, by decide, ?_⟩
    refine for_range (lo := 0) (n := 60) (fun i σ H1 => ∃ (U : List Int) (v4 v5 v6 v8 : Option V), σ = [some (.ref f), some (.ref m), some (.ref c), some (.ref d), v4, v5, v6, none, v8] ∧ Same H H1 ∧ Ls H1 d U ∧ Fd n (cls (ks ++ ms)) ns U)
      ⟨ns, none, none, none, none, rfl, Same.new hd, upd_same, Fd.start hns⟩ ?_ ?_
    · rintro i σ H1 hi ⟨U, v4, v5, v6, v8, rfl, s1, hU, fd1⟩
      have hlU := fd1.len
      have hM1 := hM.same s1
      refine ⟨_, rfl, f, _, 1, .ref cl, rfl, rfl, SqT.of (s1 _ _ hf), atI_nat (j := 1) rfl, cl, _, rfl, .inr (SqT.of (s1 _ _ hcl.1)), fun l1 h1 => ?_⟩
      have t1 : Same H1 (upd H1 l1 (.lst (rfs ks))) := Same.new h1
      have hM2 := hM1.same t1
      refine ⟨_, rfl, l1, m, _, _, rfl, rfl, upd_same, hM2.1, Nat.le_of_lt (small1000 (by rw [rfs_len, rfs_len]; omega)), fun u hu => ⟨u, rfl, ⟨_, SqL.of upd_same⟩, ?_⟩⟩
      have e0 : rfs ks ++ rfs ms = rfs (ks ++ ms) := by simp [rfs]
      rw [e0]
      have t2 : Same H1 (upd (upd H1 l1 (.lst (rfs ks))) u (.lst (rfs (ks ++ ms)))) := t1.trans (Same.new hu)
      have hE : Each H1 (ks ++ ms) := fun p hp => by
        rcases List.mem_append.mp hp with hp | hp
        · exact s1 _ _ (hcl.2 p hp)
        · exact hM1.2 p hp
      have hu2 : upd (upd H1 l1 (.lst (rfs ks))) u (.lst (rfs (ks ++ ms))) u = some (.lst (rfs (ks ++ ms))) := upd_same
      generalize upd (upd H1 l1 (.lst (rfs ks))) u (.lst (rfs (ks ++ ms))) = H2 at t2 hu2 ⊢
      refine for_list (K := K) (a := u) (xs := rfs (ks ++ ms)) (fun i' σ' H3 => ∃ (x5 : V) (v6 v8 : Option V), σ' = [some (.ref f), some (.ref m), some (.ref c), some (.ref d), some (.int (0 + (i : Int))), some x5, v6, none, v8] ∧ Same H2 H3 ∧
          ((x5 = .non ∧ Closed ((cls (ks ++ ms)).take i') U) ∨ ∃ (l : Int) (cc : List Int), x5 = .int l ∧ cc ∈ cls (ks ++ ms) ∧ rest cc U = [l] ∧ l ∉ U)) ⟨.non, v6, v8, rfl, Same.refl _, .inl ⟨rfl, fun cc hcc => by simp at hcc⟩⟩
        (fun i' σ' H3 _ ⟨_, _, _, _, e, _⟩ => SqL.of (e _ _ hu2)) ?_ ?_
      · rintro i' x σ' H3 hi' ⟨x5, v6', v8', rfl, s3, alt⟩
        obtain ⟨p, hp, rfl⟩ := ref_at hi'
        have hpm := List.mem_of_getElem? hp
        have t3 := t2.trans s3
        have hpt : H3 p.1 = some (.tup (p.2.map V.int)) := t3 _ _ (hE p hpm)
        have hpk : p.2 ∈ cls (ks ++ ms) := List.mem_map.mpr ⟨p, hpm, rfl⟩
        have hpc : Clause n p.2 := hcs p.2 hpk
        have hps : p.2.length ≤ n := lits_len n p.2 hpc.lits
        have hpi : (cls (ks ++ ms))[i']? = some p.2 := by rw [List.getElem?_map, hp]; rfl
        have hU3 := t3 _ _ hU
        refine ⟨_, rfl, p.1, rfl, ⟨_, SqT.of hpt⟩, fun D hD => ?_⟩
        have hdD : d ≠ D := ne_of_none hU3 hD
        refine lc_tup (K := K) (a := p.1) (xs := p.2.map V.int) (fun j H4 => H4 = upd H3 D (.lst ((rest (p.2.take j) U).map V.int))) rfl (fun j H4 _ e => by rw [e]; exact SqT.of (by rw [upd_ne (ne_of_none hpt hD)]; exact hpt)) ?_ ?_
        · rintro j x H4 hj rfl
          obtain ⟨z, hz, rfl⟩ := int_at hj
          have hT3 : upd H3 D (.lst ((rest (p.2.take j) U).map V.int)) d = some (.lst (U.map V.int)) := by rw [upd_ne hdD]; exact hU3
          refine ⟨rfl, _, rfl, z, rfl, _, rfl, d, _, rfl, .inl (SqL.of hT3), rfl, flat_ints U, _, rfl, ?_⟩
          rw [if_pos rfl, inV_ints, take_snoc hz, rest_snoc]
          by_cases hm : -z ∈ U
          · rw [decide_eq_true hm, if_pos hm]
            exact iteF rfl
          · rw [decide_eq_false hm, if_neg hm]
            have := rest_len (p.2.take j) U
            have : (p.2.take j).length ≤ p.2.length := by rw [List.length_take]; omega
            refine iteT ⟨_, rfl, _, upd_same, small1000 (by rw [List.length_map]; omega), ?_⟩
            rw [upd_upd, List.map_append]
            rfl
        · rintro H4 rfl
          rw [List.length_map, List.take_length]
          have hT3 : upd H3 D (.lst ((rest p.2 U).map V.int)) d = some (.lst (U.map V.int)) := by rw [upd_ne hdD]; exact hU3
          have hR3 : upd H3 D (.lst ((rest p.2 U).map V.int)) D = some (.lst ((rest p.2 U).map V.int)) := upd_same
          have s4 : Same H2 (upd H3 D (.lst ((rest p.2 U).map V.int))) := s3.trans (Same.new hD)
          have t4 : Same H (upd H3 D (.lst ((rest p.2 U).map V.int))) := s1.trans (t3.trans (Same.new hD))
          refine ⟨_, rfl, D, _, rfl, .inl (SqL.of hR3), rfl, _, rfl, ?_⟩
          rw [dec_ii, List.length_map]
          refine ite2 (fun _ => k _ t4) (fun h0 => ?_)
          have h0 : ¬ ((rest p.2 U).length : Int) = 0 := fun e => h0 (decide_eq_true e)
          have hne : rest p.2 U ≠ [] := fun e => h0 (by rw [e]; rfl)
          have ext : ∀ (hg : ∀ l, rest p.2 U = [l] → l ∈ U), (x5 = .non ∧ Closed ((cls (ks ++ ms)).take (i' + 1)) U) ∨ ∃ (l : Int) (cc : List Int), x5 = .int l ∧ cc ∈ cls (ks ++ ms) ∧ rest cc U = [l] ∧ l ∉ U := fun hg =>
            alt.imp (fun ⟨e1, e2⟩ => ⟨e1, fun cc hcc => by
              rw [take_snoc hpi] at hcc
              rcases List.mem_append.mp hcc with hcc | hcc
              · exact e2 cc hcc
              · rw [List.mem_singleton.mp hcc]
                exact ⟨hne, hg⟩⟩) id
          refine ⟨_, rfl, D, _, rfl, .inl (SqL.of hR3), rfl, _, rfl, ?_⟩
          rw [dec_ii, List.length_map]
          refine ite2 (fun h1 => ?_) (fun h1 => ?_)
          · have h1 : ((rest p.2 U).length : Int) = 1 := of_decide_eq_true h1
            obtain ⟨l, el⟩ : ∃ l, rest p.2 U = [l] := List.length_eq_one_iff.mp (by omega)
            have hat : atI ((rest p.2 U).map V.int) 0 = some (V.int l) := by rw [el]; exact atI_nat (j := 0) rfl
            refine ⟨_, rfl, D, _, 0, .int l, rfl, rfl, SqL.of hR3, hat, _, rfl, d, _, rfl, .inl (SqL.of hT3), rfl, flat_ints U, _, rfl, ?_⟩
            rw [if_pos rfl, inV_ints]
            by_cases hm : l ∈ U
            · rw [decide_eq_true hm]
              refine iteF ⟨x5, _, _, rfl, s4, ext fun k' hk => ?_⟩
              rw [el] at hk
              rw [← (List.cons.inj hk).1]
              exact hm
            · rw [decide_eq_false hm]
              exact iteT ⟨_, rfl, D, _, 0, .int l, rfl, rfl, SqL.of hR3, hat, .int l, _, _, rfl, s4, .inr ⟨l, p.2, rfl, hpk, el, hm⟩⟩
          · have h1 : ¬ ((rest p.2 U).length : Int) = 1 := fun e => h1 (decide_eq_true e)
            refine iteF ⟨x5, _, _, rfl, s4, ext fun k' hk => ?_⟩
            rw [hk] at h1
            exact absurd rfl h1
      · rintro σ' H3 ⟨x5, v6', v8', rfl, s3, alt⟩
        rw [rfs_len, ← cls_len (ks ++ ms), List.take_length] at alt
        have t3 := t2.trans s3
        refine ⟨_, rfl, rfl, _, rfl, ?_⟩
        rcases alt with ⟨e1, e2⟩ | ⟨l, cc, e1, e2, e3, e4⟩
        · exact (known_not (fd1.known e2) hcon).elim
        · subst e1
          rw [decide_eq_false (show ¬ V.int l = V.non by intro z; cases z)]
          have hU3 := t3 _ _ hU
          refine iteF ⟨_, rfl, .inl ⟨rfl, _, SqL.of hU3⟩, _, rfl, d, _, _, rfl, rfl, hU3, small1000 (by rw [List.length_map]; omega), ?_⟩
          exact ⟨U ++ [l], _, _, _, _, rfl, Same.put hd (s1.trans t3), by rw [Ls, upd_same, List.map_append]; rfl, fd1.step e2 (hcs cc e2) e3 e4⟩
    · rintro σ H1 ⟨U, v4, v5, v6, v8, rfl, s1, hU, fd1⟩
      exact k H1 s1
end
end Rb
/-! ## D14 -/
namespace Rb
open PySem L2
section
variable {P : Program} {w : World} {K : PySem.W.Frag} {mg : Str → Option Value} {base : Heap}
abbrev nGoodLog : List Str := ["_law_formula_here", "_law_log", "_law_k", "_law_j", "_law_literal"]
theorem scGoodLog : FnScope nGoodLog ["_law_formula_here", "_law_log"] (C8.fnScope sGoodLog) := C8.fnScope_by (by decide +kernel)
theorem log_item {n : Nat} {cs : List (List Int)} {gs : List (Addr × List Int)} {e : Addr} (h : Learnt n cs (cls gs)) (hc : Contra (cs ++ cls gs) []) {k : Nat} {p : Addr × List Int} (hp : (gs ++ [(e, [])])[k]? = some p) :
    Clause n p.2 ∧ Contra (cs ++ cls ((gs ++ [(e, [])]).take k)) (negs p.2) ∧ Clauses n (cls ((gs ++ [(e, [])]).take k)) := by
  by_cases hk : k < gs.length
  · rw [List.getElem?_append_left hk] at hp
    rw [List.take_append_of_le_length (Nat.le_of_lt hk)]
    have hpc : (cls gs)[k]? = some p.2 := by rw [List.getElem?_map, hp]; rfl
    have et : cls (gs.take k) = (cls gs).take k := List.map_take
    refine ⟨h.ok p.2 (List.mem_of_getElem? hpc), by rw [et]; exact h.log k p.2 hpc, fun c hcc => ?_⟩
    rw [et] at hcc
    exact h.ok c (List.mem_of_mem_take hcc)
  · rw [List.getElem?_append_right (Nat.le_of_not_lt hk)] at hp
    have e0 : k - gs.length = 0 := by
      cases q : k - gs.length with
      | zero => rfl
      | succ j => rw [q] at hp; simp at hp
    have e1 : k = gs.length := by omega
    rw [e0] at hp
    have e2 : ((e, []) : Addr × List Int) = p := Option.some.inj hp
    subst e2
    rw [e1, List.take_left]
    exact ⟨⟨List.Pairwise.nil, fun l hl => (by cases hl), fun l hl => (by cases hl)⟩, hc, h.ok⟩
theorem cut_take {xs : List V} {k : Nat} (h : k ≤ xs.length) : cutV xs none (some (0 + (k : Int))) = xs.take k := by
  unfold cutV
  rw [Int.zero_add, HT.sIx_nat, HT.sIx_none, List.drop_zero, Nat.sub_zero, Nat.min_eq_left h]
theorem cal_good_log {f : Addr} {fd : FuncData} (T : Txt mg) (F : C8.Def K mg "_law_good_log" sGoodLog f fd) (b : Binds K fd ["_law_formula_here", "_law_log"] [])
    (cO : C8.Cal P w K mg base 2 "_law_at_once" spAtOnce []) : C8.Cal P w K mg base 3 "_law_good_log" spGoodLog [] := by
  refine C8.cal0 F b .nil scGoodLog (fun vs H Q E h => ?_) (fun cdv A outer s H vs Q E hr h => ?_)
  · obtain ⟨f, t, e, n, ks, gs, rfl, _⟩ := h
    rfl
  · obtain ⟨f, t, e, n, ks, gs, rfl, hF, hT, hn, hks, hlen, hlea, hcon, k⟩ := h
    obtain ⟨cl, hf, hcl⟩ := id hF
    have nd := scGoodLog.nd
    have hu := hr.units
    refine ⟨_, pss_cons (ps_if (PW.pt (pw_or (pt_cmpR op_eq (pe_callB call_len_seq (by rfl) T.len PySem.boot_len (pa_cons (pv 1) pa_nil)) pe_int (nomark _)) (pw_or1 (pt_cmpR (op_neD hu) (pe_ix ix_tup (pv 1) (pe_un un_neg pe_int) (fun _ _ => rfl)) (pe_tup pa_nil) (nomark _))))) (pss_one (ps_ret pe_bl)) pss_nil)
      (pss_cons (ps_for PassesOwn.never rfl (pi_range1 (by rfl) T.range (pa_cons (pe_callB call_len_seq (by rfl) T.len PySem.boot_len (pa_cons (pv 1) pa_nil)) pa_nil)) (pg_name (i := 2) nd rfl (Or.inl rfl))
        (pss_cons (ps_for PassesOwn.never rfl (pi_range1 (by rfl) T.range (pa_cons (pe_callB call_len_seq (by rfl) T.len PySem.boot_len (pa_cons (pe_ix ix_tup (pv 1) (pv 2) (fun _ _ => rfl)) pa_nil)) pa_nil)) (pg_name (i := 3) nd rfl (Or.inl rfl))
          (pss_cons (ps_set (i := 4) nd rfl (Or.inl rfl) (pe_ix ix_tup (pe_ix ix_tup (pv 1) (pv 2) (fun _ _ => rfl)) (pv 3) (fun _ _ => rfl)))
          (pss_one (ps_if (PW.pt (pw_or (pt_cmpR op_lt (pe_callB call_abs (by rfl) T.abs (by decide +kernel) (pa_cons (pv 4) pa_nil)) pe_int (nomark _))
              (pw_or (pt_cmpR op_gt (pe_callB call_abs (by rfl) T.abs (by decide +kernel) (pa_cons (pv 4) pa_nil)) (pe_ix ix_tup (pv 0) pe_int (fun _ _ => rfl)) (nomark _))
              (pw_or (pt_cmpR op_in_seq (pe_un un_neg (pv 4)) (pe_ix ix_tup (pv 1) (pv 2) (fun _ _ => rfl)) rfl)
              (pw_or1 (PW.pt (pw_and (pt_cmpR op_gt (pv 3) pe_int (nomark _)) (pw_and1 (pt_cmpR op_ge (pe_ix ix_tup (pe_ix ix_tup (pv 1) (pv 2) (fun _ _ => rfl)) (pe_op op_sub (pv 3) pe_int) (fun _ _ => rfl)) (pv 4) (nomark _))))))))))
            (pss_one (ps_ret pe_bl)) pss_nil))))
        (pss_one (ps_if (pt_not (pt_val (C8.pe_c cO hr (by decide) rfl (pa_cons (pv 0) (pa_cons (pe_callTy call_list_of (by rfl) T.list (by decide +kernel) (pa_cons (pe_slice sl_tupA (pv 1) po_none (po_some (pv 2))) pa_nil)) (pa_cons (pe_ix ix_tup (pv 1) (pv 2) (fun _ _ => rfl)) pa_nil)))))) (pss_one (ps_ret pe_bl)) pss_nil))))
      (pss_one (ps_ret pe_bl))), ?_⟩
    have hlg : (rfs (gs ++ [(e, [])])).length = gs.length + 1 := by rw [rfs_len, List.length_append]; rfl
    -- if len(log) == 0 or log[-1] != ()
    refine ⟨_, rfl, t, _, rfl, .inr (SqT.of hT.1), rfl, _, rfl, ?_⟩
    rw [dec_ii, hlg, decide_eq_false (show ¬ ((gs.length + 1 : Nat) : Int) = 0 by omega)]
    have hlast : atI (rfs (gs ++ [(e, [])])) (-1) = some (V.ref e) := by
      rw [show rfs (gs ++ [(e, [])]) = rfs gs ++ [V.ref e] by simp [rfs]]
      exact atI_last _ _
    refine iteF ⟨_, rfl, 1, rfl, t, _, -1, .ref e, rfl, rfl, SqT.of hT.1, hlast, Nat.zero_le _, fun u hu' => ?_⟩
    have s0 : Same H (upd H u (.tup [])) := Same.new hu'
    have he : Tp (upd H u (.tup [])) e [] := s0 _ _ (hT.2 (e, []) (List.mem_append_right _ (List.mem_singleton.mpr rfl)))
    refine ⟨tupD [], tupD [], dp_tup he, dp_tup (show Tp (upd H u (.tup [])) u [] from upd_same), shaped_tup _, shaped_tup _, _, rfl, ?_⟩
    rw [eqv_tup, decide_eq_true (show ([] : List Int) = [] from rfl)]
    refine iteF ?_
    refine ⟨_, rfl, t, _, rfl, .inr (SqT.of (s0 _ _ hT.1)), _, rfl, by omega, by omega, ?_⟩
    rw [hlg, Int.toNat_natCast]
    refine for_range (lo := 0) (n := gs.length + 1) (fun i σ H1 => ∃ v2 v3 v4 : Option V, σ = [some (.ref f), some (.ref t), v2, v3, v4] ∧ Same H H1) ⟨none, none, none, rfl, s0⟩ ?_ ?_
    · rintro i σ H1 hi ⟨v2, v3, v4, rfl, s1⟩
      have hT1 := hT.same s1
      have hil : i < (gs ++ [(e, [])]).length := by rw [List.length_append]; exact hi
      obtain ⟨p, hp⟩ : ∃ p, (gs ++ [(e, [])])[i]? = some p := ⟨_, List.getElem?_eq_getElem hil⟩
      have hpt : Tp H1 p.1 p.2 := hT1.2 p (List.mem_of_getElem? hp)
      have hat : atI (rfs (gs ++ [(e, [])])) (0 + (i : Int)) = some (V.ref p.1) := at_of (j := i) (by omega) (by rw [List.getElem?_map, hp]; rfl)
      obtain ⟨pc, pcon, pcl⟩ := log_item hlea hcon hp
      have hpl := lits_len n p.2 pc.lits
      refine ⟨_, rfl, _, rfl, t, _, _, .ref p.1, rfl, rfl, SqT.of hT1.1, hat, p.1, _, rfl, .inr (SqT.of hpt), _, rfl, by omega, by rw [List.length_map]; omega, ?_⟩
      rw [List.length_map, Int.toNat_natCast]
      refine for_range (lo := 0) (n := p.2.length) (fun j σ H2 => ∃ v3 v4 : Option V, σ = [some (.ref f), some (.ref t), some (.int (0 + (i : Int))), v3, v4] ∧ H2 = H1) ⟨v3, v4, rfl, rfl⟩ ?_ ?_
      · rintro j σ H2 hj ⟨v3, v4, rfl, rfl⟩
        have hz : p.2[j]? = some p.2[j] := List.getElem?_eq_getElem hj
        generalize p.2[j] = z at hz
        have hzm := List.mem_of_getElem? hz
        have hzr := pc.rng z hzm
        have hzat : atI (p.2.map V.int) (0 + (j : Int)) = some (V.int z) := at_of (j := j) (by omega) (by rw [List.getElem?_map, hz]; rfl)
        refine ⟨_, rfl, _, rfl, t, _, _, .ref p.1, rfl, rfl, SqT.of hT1.1, hat, _, rfl, p.1, _, _, .int z, rfl, rfl, SqT.of hpt, hzat, ?_⟩
        refine ⟨_, rfl, z, rfl, _, _, rfl, rfl, _, rfl, ?_⟩
        rw [decide_eq_false (show ¬ (if z < 0 then -z else z) < 1 by split <;> omega)]
        refine iteF ⟨_, rfl, z, rfl, _, rfl, f, _, 0, .int n, rfl, rfl, SqT.of (s1 _ _ hf), atI_nat (j := 0) rfl, _, _, rfl, rfl, _, rfl, ?_⟩
        rw [decide_eq_false (show ¬ (n : Int) < (if z < 0 then -z else z) by split <;> omega)]
        refine iteF ⟨_, rfl, z, rfl, _, rfl, _, rfl, t, _, _, .ref p.1, rfl, rfl, SqT.of hT1.1, hat, p.1, _, rfl, .inr (SqT.of hpt), rfl, flat_ints p.2, _, rfl, ?_⟩
        rw [if_neg Bool.false_ne_true, inV_ints, decide_eq_false (pc.con z hzm)]
        refine iteF ⟨_, rfl, _, _, rfl, rfl, _, rfl, ?_⟩
        by_cases hj0 : (0 : Int) < 0 + (j : Int)
        · rw [decide_eq_true hj0]
          have hy : p.2[j - 1]? = some p.2[j - 1] := List.getElem?_eq_getElem (by omega)
          have hlt : p.2[j - 1] < z := by
            have h1 := List.pairwise_iff_getElem.mp pc.asc (j - 1) j (by omega) hj (by omega)
            have h2 : p.2[j] = z := by
              have := List.getElem?_eq_getElem hj
              rw [hz] at this
              exact (Option.some.inj this).symm
            omega
          generalize p.2[j - 1] = y at hy hlt
          have hyat : atI (p.2.map V.int) (0 + (j : Int) - 1) = some (V.int y) := at_of (j := j - 1) (by omega) (by rw [List.getElem?_map, hy]; rfl)
          refine iteT ⟨_, rfl, _, rfl, t, _, _, .ref p.1, rfl, rfl, SqT.of hT1.1, hat, _, rfl, _, _, rfl, rfl, p.1, _, _, .int y, rfl, rfl, SqT.of hpt, hyat, _, rfl, _, _, rfl, rfl, _, rfl, ?_⟩
          rw [decide_eq_false (show ¬ z ≤ y by omega)]
          exact iteF ⟨_, _, rfl, rfl⟩
        · rw [decide_eq_false hj0]
          exact iteF (iteF ⟨_, _, rfl, rfl⟩)
      · rintro σ H2 ⟨v3, v4, rfl, rfl⟩
        -- if not at_once(formula, list(log[:k]), log[k])
        have hle : i ≤ (rfs (gs ++ [(e, [])])).length := by rw [hlg]; omega
        refine ⟨_, rfl, _, rfl, _, rfl, _, rfl, t, _, rfl, SqT.of hT1.1, fun hw => ?_, fun _ r hr' => ?_⟩
        · obtain ⟨_, hw⟩ := hw
          rw [Int.zero_add, HT.sIx_nat, hlg] at hw
          omega
        · rw [cut_take hle]
          have t1 : Same H2 (upd H2 r (.tup ((rfs (gs ++ [(e, [])])).take i))) := Same.new hr'
          refine ⟨r, _, rfl, .inr (SqT.of upd_same), fun l hl => ?_⟩
          have t2 := t1.trans (Same.new (o := .lst ((rfs (gs ++ [(e, [])])).take i)) hl)
          have s2 := s1.trans t2
          refine ⟨_, rfl, _, rfl, t, _, _, .ref p.1, rfl, rfl, SqT.of (t2 _ _ hT1.1), hat, ?_⟩
          have e1 : (rfs (gs ++ [(e, [])])).take i = rfs ((gs ++ [(e, [])]).take i) := List.map_take.symm
          refine ⟨f, l, p.1, n, ks, (gs ++ [(e, [])]).take i, p.2, rfl, hF.same s2, ⟨by rw [upd_same, e1], fun m hm => t2 _ _ (hT1.2 m (List.mem_of_mem_take hm))⟩, t2 _ _ hpt, hn, hks, pcl, by rw [List.length_take, List.length_append]; show ks.length + min i (gs.length + 1) ≤ 100; omega, pc, pcon, fun H5 s5 => ⟨_, rfl, ?_⟩⟩
          exact iteF ⟨_, _, _, rfl, s2.trans s5⟩
    · rintro σ H1 ⟨v2, v3, v4, rfl, s1⟩
      exact k H1 s1
end
end Rb
/-! ## D15 -/
namespace Rb
open PySem L2
section
variable {P : Program} {w : World} {K : PySem.W.Frag} {mg : Str → Option Value} {base : Heap}
abbrev nHopeless : List Str := ["_law_cell_here", "_law_most", "_law_many", "_law_n", "_law_clauses", "_law_rows_here", "_law_draws_here", "_law_k", "_law_models_here", "_law_cube", "_law_literal", "_law_keep"]
theorem scHopeless : FnScope nHopeless ["_law_cell_here", "_law_most", "_law_many"] (C8.fnScope sHopeless) := C8.fnScope_by (by decide +kernel)
theorem drawn_at' {ds : List Int} (h : Drawn ds) {e : Int} (h0 : 0 ≤ e) (h1 : e < ds.length) : ∃ d, atI (ds.map V.int) e = some (V.int d) ∧ 0 ≤ d ∧ d < 4096 := by
  obtain ⟨j, hj⟩ : ∃ j : Nat, e = (j : Int) := ⟨e.toNat, by omega⟩
  have hjl : j < ds.length := by omega
  exact ⟨ds[j], at_of hj (by rw [List.getElem?_map, List.getElem?_eq_getElem hjl]; rfl), h ds[j] (List.getElem_mem hjl)⟩
theorem ref_mod {ms : List (Addr × List Int)} (h : 0 < ms.length) (d : Int) : ∃ p, p ∈ ms ∧ atI (rfs ms) (d % ((rfs ms).length : Int)) = some (V.ref p.1) := by
  rw [rfs_len]
  have h1 := Int.emod_nonneg d (show (ms.length : Int) ≠ 0 by omega)
  have h2 := Int.emod_lt_of_pos d (show (0 : Int) < (ms.length : Int) by omega)
  obtain ⟨j, hj⟩ : ∃ j : Nat, d % (ms.length : Int) = (j : Int) := ⟨(d % (ms.length : Int)).toNat, by omega⟩
  have hjl : j < ms.length := by omega
  exact ⟨ms[j], List.getElem_mem hjl, at_of hj (by rw [List.getElem?_map, List.getElem?_eq_getElem hjl]; rfl)⟩
theorem negs_take2 {ns : List Int} {i : Nat} {z : Int} (h : ns[i]? = some z) : negs (ns.take (i + 1)) = negs (ns.take i) ++ [-z] := by
  rw [take_snoc h]
  unfold negs
  rw [List.map_append]
  rfl
theorem negs_len2 (ns : List Int) : (negs ns).length = ns.length := List.length_map ..
/-- the state behind a turn -/
def HJ (H : Hp) (z : Int) (n : Nat) (c q dr : Addr) (σ : L2.St) (H1 : Hp) (m : Nat) : Prop := ∃ (rows : List (Addr × List Int)) (v7 v8 v9 v11 : Option V), σ = [some (.int z), some (.int 4), some (.int 7), some (.int n), some (.ref c), some (.ref q), some (.ref dr), v7, v8, v9, none, v11] ∧ Same H H1 ∧ CsL H1 q rows ∧ Clauses n (cls rows) ∧ rows.length ≤ m
theorem cal_hopeless {f : Addr} {fd : FuncData} (T : Txt mg) (F : C8.Def K mg "_law_hopeless" sHopeless f fd) (b : Binds K fd ["_law_cell_here", "_law_most", "_law_many"] [])
    (cF : C8.Cal P w K mg base 3 "_law_formula" spFormula []) (cD : C8.Cal P w K mg base 1 "_law_draws" spDraws []) (cM : C8.Cal P w K mg base 2 "_law_models" spModels []) (cO : C8.Cal P w K mg base 2 "_law_of_rows" spOfRows []) :
    C8.Cal P w K mg base 4 "_law_hopeless" spHopeless [] := by
  refine C8.cal0 F b .nil scHopeless (fun vs H Q E h => ?_) (fun cdv A outer s H vs Q E hr h => ?_)
  · obtain ⟨z, rfl, _⟩ := h
    rfl
  · obtain ⟨z, rfl, hz, k⟩ := h
    have nd := scHopeless.nd
    refine ⟨_, pss_cons (ps_asg (C8.pe_c cF hr (by decide) rfl (pa_cons (pv 0) (pa_cons (pv 1) (pa_cons (pv 2) pa_nil)))) (pg_tup (by rfl) (pgs_cons (pg_name (i := 3) nd rfl (Or.inl rfl)) (pgs_cons (pg_name (i := 4) nd rfl (Or.inl rfl)) pgs_nil))))
      (pss_cons (ps_set (i := 5) nd rfl (Or.inl rfl) (pe_callTy call_list_of (by rfl) T.list (by decide +kernel) (pa_cons (pv 4) pa_nil)))
      (pss_cons (ps_set (i := 6) nd rfl (Or.inr rfl) (C8.pe_c cD hr (by decide) rfl (pa_cons (pe_op op_add (pv 0) pe_int) (pa_cons pe_int pa_nil))))
      (pss_cons (ps_for PassesOwn.never rfl (pi_range1 (by rfl) T.range (pa_cons pe_int pa_nil)) (pg_name (i := 7) nd rfl (Or.inr rfl))
        (pss_cons (ps_set (i := 8) nd rfl (Or.inl rfl) (C8.pe_c cM hr (by decide) rfl (pa_cons (pe_tup (pa_cons (pv 3) (pa_cons (pe_callTy call_tuple_of (by rfl) T.tuple (by decide +kernel) (pa_cons (pv 5) pa_nil)) pa_nil))) pa_nil)))
        (pss_cons (ps_if (pt_cmpR op_eq (pe_callB call_len_seq (by rfl) T.len PySem.boot_len (pa_cons (pv 8) pa_nil)) pe_int (nomark _)) (pss_one ps_break) pss_nil)
        (pss_cons (ps_set (i := 9) nd rfl (Or.inl rfl) (pe_ix ix_list (pv 8) (pe_op op_mod (pe_ix ix_list (pv 6) (pv 7) (fun _ _ => rfl)) (pe_callB call_len_seq (by rfl) T.len PySem.boot_len (pa_cons (pv 8) pa_nil))) (fun _ _ => rfl)))
        (pss_cons (ps_setLc (i := 11) (own := [("_law_literal", 10)]) (g := gName 10) (by rfl) nd rfl rfl (sw_true rfl rfl rfl (by decide +kernel)) (pi_tup (pv 9)) (blkOk_by (N := nHopeless) (sc := C8.fnScope sHopeless) (by decide +kernel)) (fun _ _ _ _ _ => pg_name (i := 10) nd rfl (Or.inl rfl))
            (fun _ _ _ _ _ => pts_one (pt_cmpR op_gt (pe_op op_mod (pe_op op_fdiv (pe_ix (ix_listK (K := K) rfl) (pv 6) (pe_op op_add pe_int (pv 7)) (fun _ _ => rfl)) (pe_op op_add pe_int (pe_callB call_abs (by rfl) T.abs (by decide +kernel) (pa_cons (pv 10) pa_nil)))) pe_int) pe_int (nomark _))) (fun _ _ _ _ _ => pv 10))
        (pss_one (ps_expr (pe_bm PySem.F.plainAttrs_list PySem.F.slot_list_append PySem.F.type_list_append mt_append (pv 5) (pa_cons (pe_callTy call_tuple_of (by rfl) T.tuple (by decide +kernel) (pa_cons (pe_callB cr_sorted (by rfl) T.sorted (by decide +kernel) (pa_cons
          (pe_lc (own := [("_law_literal", 10)]) (g := gName 10) (tt := tYes) (by rfl) nd (pi_list (pv 11)) (blkOk_by (N := nHopeless) (sc := C8.fnScope sHopeless) (by decide +kernel)) (fun _ _ _ _ _ => pg_name (i := 10) nd rfl (Or.inl rfl))
            (fun _ _ _ _ _ => pts_nil) (fun _ _ _ _ _ => pe_un un_neg (pv 10))) pa_nil)) pa_nil)) pa_nil)))))))))
      (pss_one (ps_ret (C8.pe_c cO hr (by decide) rfl (pa_cons (pv 3) (pa_cons (pv 5) pa_nil)))))))), ?_⟩
    -- n, clauses = formula(cell, most, many)
    refine ⟨_, rfl, _, rfl, _, rfl, z, 4, 7, rfl, big0 hz, by decide, by decide, by decide, fun H1 g n ks s1 hg hn hks hkl => ?_⟩
    obtain ⟨c, hg1, hc⟩ := hg
    refine ⟨g, _, rfl, SqT.of hg1, rfl, _, _, rfl, _, _, rfl, rfl, ?_⟩
    -- rows = list(clauses)
    refine ⟨_, rfl, c, _, rfl, .inr (SqT.of hc.1), fun q hq => ?_⟩
    have s2 := Same.put (o := .lst (rfs ks)) (s1.free hq) s1
    have hq0 : H q = none := s1.free hq
    have hrows : CsL (upd H1 q (.lst (rfs ks))) q ks := ⟨upd_same, fun p hp => Same.new hq _ _ (hc.2 p hp)⟩
    -- draws
    refine ⟨_, rfl, _, _, rfl, rfl, z + 77, 40, rfl, big77 hz, by decide, fun H2 dr ds s3 hds hdl hdr => ?_⟩
    have s4 := s2.trans s3
    have hrows2 := hrows.same s3
    -- for k in range(16)
    refine ⟨16, rfl, by decide, by decide, ?_⟩
    refine (fun (hJ : ∀ (σ : L2.St) (H' : Hp), HJ H z n c q dr σ H' 23 → _) => for_range (lo := 0) (n := 16) (fun i σ H' => HJ H z n c q dr σ H' (7 + i) ∧ Ls H' dr ds ∧ dr ≠ q) ?start ?turn (fun σ H' p => hJ σ H' p.1)) ?fin
    case start =>
      have hne : dr ≠ q := fun e => by
        subst e
        have h1 := hrows2.1
        rw [hds] at h1
        have h2 : ds.map V.int = rfs ks := by
          have := Option.some.inj h1
          injection this
        have h3 : (ds.map V.int).length = 40 := by rw [List.length_map]; exact hdl
        rw [h2, rfs_len] at h3
        omega
      exact ⟨⟨ks, none, none, none, none, rfl, s4, hrows2, hks, by omega⟩, hds, hne⟩
    case fin =>
      rintro σ H' ⟨rows, v7, v8, v9, v11, rfl, s5, hr5, hcl5, hl5⟩
      refine ⟨_, rfl, _, rfl, q, n, n, rows, rfl, rfl, hr5.1, fun p hp => ?_, by omega, fun H6 u gs s6 hu hgc hgl => ?_⟩
      · have hpc : Clause n p.2 := hcl5 p.2 (List.mem_map.mpr ⟨p, hp, rfl⟩)
        exact ⟨.inr (hr5.2 p hp), hpc.rng, by have := lits_len n p.2 hpc.lits; omega⟩
      · exact k H6 u n gs (s5.trans s6) hu (by omega) hgc (by omega)
    case turn =>
      rintro i σ H3 hi ⟨⟨rows, v7, v8, v9, v11, rfl, s5, hr5, hcl5, hl5⟩, hd5, hne⟩
      -- models((n, tuple(rows)))
      refine ⟨_, rfl, _, rfl, q, _, rfl, .inl ⟨SqL.of hr5.1, fun t ht => ⟨(by show 2 ≤ sizeLine; decide), fun u hu => ?_⟩⟩⟩
      have t1 : Same H3 (upd H3 t (.tup (rfs rows))) := Same.new ht
      have t2 : Same H3 (upd (upd H3 t (.tup (rfs rows))) u (.tup [.int n, .ref t])) := t1.trans (Same.new hu)
      have htu : t ≠ u := ne_of_none upd_same hu
      refine ⟨u, n, rows, rfl, ⟨t, upd_same, ⟨by rw [upd_ne htu]; exact upd_same, fun p hp => t2 _ _ (hr5.2 p hp)⟩⟩, by omega, hcl5, by omega, fun H4 ml ms s6 hml hmm hmsl => ?_⟩
      have t3 := t2.trans s6
      have s7 := s5.trans t3
      have hr7 := hr5.same t3
      have hd7 := t3 _ _ hd5
      -- if len(models) == 0: break
      refine ⟨_, rfl, ml, _, rfl, .inl (SqL.of hml.1), rfl, _, rfl, ?_⟩
      rw [dec_ii]
      refine ite2 (fun _ => ?_) (fun h0 => ?_)
      · exact hJ _ _ ⟨rows, _, _, _, _, rfl, s7, hr7, hcl5, by omega⟩
      · have h0 : ¬ ((rfs ms).length : Int) = 0 := fun e => h0 (decide_eq_true e)
        rw [rfs_len] at h0
        -- cube = models[..]
        obtain ⟨d0, e0, _⟩ := drawn_at' hdr (e := 0 + (i : Int)) (by omega) (by omega)
        obtain ⟨p, hpm, hpat⟩ := ref_mod (ms := ms) (by omega) d0
        have hpt : Tp H4 p.1 p.2 := hml.2 p hpm
        have hmod := (hmm p.2).mp (List.mem_map.mpr ⟨p, hpm, rfl⟩)
        have hpl := hmod.1.lits
        have hpln := lits_len n p.2 hpl
        refine ⟨_, rfl, _, rfl, _, rfl, dr, _, _, .int d0, rfl, rfl, SqL.of hd7, e0, _, rfl, ml, _, rfl, .inl (SqL.of hml.1), _, _, rfl, rfl, by rw [rfs_len]; omega, ml, _, _, .ref p.1, rfl, rfl, SqL.of hml.1, hpat, ?_⟩
        -- keep = [..]
        refine ⟨_, rfl, p.1, rfl, ⟨_, SqT.of hpt⟩, fun D hD => ?_⟩
        refine lc_tup (K := K) (a := p.1) (xs := p.2.map V.int) (fun j H5 => ∃ kp : List Int, H5 = upd H4 D (.lst (kp.map V.int)) ∧ kp.Sublist (p.2.take j)) ⟨[], rfl, List.Sublist.refl _⟩
          (fun j H5 _ ⟨_, e, _⟩ => by rw [e]; exact SqT.of (by rw [upd_ne (ne_of_none hpt hD)]; exact hpt)) ?_ ?_
        · rintro j x H5 hj ⟨kp, rfl, hsub⟩
          obtain ⟨y, hy, rfl⟩ := int_at hj
          have hyr := hpl.rng y (List.mem_of_getElem? hy)
          have hjl : j < p.2.length := (List.getElem?_eq_some_iff.mp hy).1
          obtain ⟨d1, f0, f1⟩ := drawn_at' hdr (e := 20 + (0 + (i : Int))) (by omega) (by omega)
          have hd8 : upd H4 D (.lst (kp.map V.int)) dr = some (.lst (ds.map V.int)) := by rw [upd_ne (ne_of_none hd7 hD)]; exact hd7
          have hkl : kp.length ≤ 40 := by
            have h1 := hsub.length_le
            rw [List.length_take] at h1
            omega
          refine ⟨rfl, _, rfl, _, rfl, _, _, rfl, rfl, dr, _, _, .int d1, rfl, rfl, SqL.of hd8, f0, _, rfl, y, rfl, _, _, rfl, rfl, _, _, rfl, rfl, ⟨by split <;> omega, by split <;> omega⟩, _, _, rfl, rfl, (by show (0 : Int) < 3; decide), _, _, rfl, rfl, _, rfl, ?_⟩
          rw [take_snoc hy]
          refine ite2 (fun _ => ?_) (fun _ => ?_)
          · exact ⟨_, rfl, _, upd_same, small1000 (by rw [List.length_map]; omega), kp ++ [y], by rw [upd_upd, List.map_append]; rfl, hsub.append (List.Sublist.refl _)⟩
          · exact ⟨kp, rfl, hsub.trans (List.sublist_append_left _ _)⟩
        · rintro H5 ⟨kp, rfl, hsub⟩
          rw [List.length_map, List.take_length] at hsub
          have hkl := hsub.length_le
          have s8 : Same H4 (upd H4 D (.lst (kp.map V.int))) := Same.new hD
          have hD5 : upd H4 D (.lst (kp.map V.int)) D = some (.lst (kp.map V.int)) := upd_same
          generalize upd H4 D (.lst (kp.map V.int)) = H5 at s8 hD5 ⊢
          have hr8 := hr7.same s8
          -- rows.append(tuple(sorted([-literal for literal in keep])))
          refine ⟨_, rfl, .inl ⟨rfl, _, SqL.of hr8.1⟩, _, rfl, D, rfl, ⟨_, SqL.of hD5⟩, fun D2 hD2 => ?_⟩
          refine lc_list (K := K) (a := D) (xs := kp.map V.int) (fun j H6 => H6 = upd H5 D2 (.lst ((negs (kp.take j)).map V.int))) rfl (fun j H6 _ e => by rw [e]; exact SqL.of (by rw [upd_ne (ne_of_none hD5 hD2)]; exact hD5)) ?_ ?_
          · rintro j x H6 hj rfl
            obtain ⟨y, hy, rfl⟩ := int_at hj
            refine ⟨rfl, _, rfl, y, rfl, _, upd_same, small1000 (by rw [List.length_map, negs_len2, List.length_take]; omega), ?_⟩
            rw [upd_upd, negs_take2 hy, List.map_append]
            rfl
          · rintro H6 rfl
            rw [List.length_map, List.take_length]
            refine ⟨D2, _, rfl, SqL.of upd_same, by rw [negs_len2]; omega, fun nc l pc hsc hl => ?_⟩
            refine ⟨l, _, rfl, .inl ⟨SqL.of upd_same, fun v hv => ?_⟩⟩
            have s9 : Same H5 (upd (upd (upd H5 D2 (.lst ((negs kp).map V.int))) l (.lst (nc.map V.int))) v (.tup (nc.map V.int))) := (Same.new hD2).trans ((Same.new hl).trans (Same.new hv))
            have hr9 := hr8.same s9
            refine ⟨q, _, _, rfl, rfl, hr9.1, small1000 (by rw [rfs_len]; omega), ?_⟩
            refine ⟨⟨rows ++ [(v, nc)], _, _, _, _, rfl, Same.put hq0 ((s7.trans s8).trans s9), hr9.push upd_same, ?_, by rw [List.length_append, List.length_singleton]; omega⟩, by rw [Ls, upd_ne hne]; exact s9 _ _ (s8 _ _ hd7), hne⟩
            rw [cls_push]
            exact hcl5.app fun d hd => by rw [List.mem_singleton.mp hd]; exact negs_clause (hpl.sub hsub) pc hsc
end
end Rb
/-! ## D16 -/
namespace Rb
open PySem L2
section
variable {P : Program} {w : World} {K : PySem.W.Frag} {mg : Str → Option Value} {base : Heap} {C : Addr}
abbrev nLaw : List Str := ["_law_script", "_law_formula_here", "_law_models_here", "_law_told", "_law_learner", "_law_draws_here", "_law_k", "_law_v", "_law_clause", "_law_cube"]
theorem scLaw : FnScope nLaw ["_law_script"] (C8.fnScope sLaw) := C8.fnScope_by (by decide +kernel)
theorem strLM : ¬ V.str ("log" : Str) = V.str ("model" : Str) := by decide +kernel
theorem strML : ¬ V.str ("model" : Str) = V.str ("log" : Str) := by decide +kernel
theorem pickv (v : Int) {e : Int} (h1 : 0 ≤ e) (h2 : e < 2) : ∃ w, atI [V.int v, V.int (-v)] e = some (V.int w) ∧ (w = v ∨ w = -v) := by
  by_cases h : e = 0
  · exact ⟨v, at_of (j := 0) (by omega) rfl, .inl rfl⟩
  · exact ⟨-v, at_of (j := 1) (by omega) rfl, .inr rfl⟩
theorem drawn_k {ds : List Int} (h : Drawn ds) {j : Nat} (hj : j < ds.length) : ∃ d, atI (ds.map V.int) (0 + (j : Int)) = some (V.int d) ∧ 0 ≤ d ∧ d < 4096 :=
  ⟨ds[j], at_of (j := j) (by omega) (by rw [List.getElem?_map, List.getElem?_eq_getElem hj]; rfl), h ds[j] (List.getElem_mem hj)⟩
theorem Told.same {H H' : Hp} {q : Addr} {n : Nat} {ks : List (Addr × List Int)} (s : Same H H') (h : Told H q n ks) : Told H' q n ks := by
  rcases h with ⟨t, r, h1, h2, h3⟩ | ⟨t, e, gs, h1, h2, h3⟩
  · exact .inl ⟨t, r, s _ _ h1, s _ _ h2, h3⟩
  · exact .inr ⟨t, e, gs, s _ _ h1, h2.same s, h3⟩
/-- a statement in the middle: what is so behind it -/
theorem seq_mid {t u : TS} {D : Ends} {σ : L2.St} {H : Hp} (J : L2.St → Hp → Prop) (h1 : ∀ D' : Ends, (∀ σ' H', J σ' H' → D'.nx σ' H') → t D' σ H) (h2 : ∀ σ' H', J σ' H' → u D σ' H') : tSeq t u D σ H := h1 { D with nx := u D } h2
theorem turns_ok {n i : Nat} (h : i < (40 * (if decide ((0 : Int) < (n : Int)) = true then (1 : Int) else 0)).toNat) : i < 40 ∧ 0 < n := by
  by_cases hn : (0 : Int) < (n : Int)
  · rw [decide_eq_true hn, if_pos rfl] at h
    omega
  · rw [decide_eq_false hn, if_neg Bool.false_ne_true] at h
    omega
theorem turns_b (n : Nat) : -(2 ^ 62) ≤ 40 * (if decide ((0 : Int) < (n : Int)) = true then (1 : Int) else 0) ∧ 40 * (if decide ((0 : Int) < (n : Int)) = true then (1 : Int) else 0) < 2 ^ 62 := by
  split <;> omega
theorem getD_big {ns : List Int} (h : ∀ z ∈ ns, Builtin.Int.intBits z ≤ 1048576) (j : Nat) : (ns.getD j 0).natAbs.log2 < 1048577 := by
  rw [List.getD_eq_getElem?_getD]
  by_cases hj : j < ns.length
  · rw [List.getElem?_eq_getElem hj]
    exact big_of (h _ (List.getElem_mem hj))
  · rw [List.getElem?_eq_none (by omega)]
    show (0 : Int).natAbs.log2 < 1048577
    decide
def J1 (H : Hp) (a : Addr) (σ : L2.St) (H1 : Hp) : Prop := ∃ (f : Addr) (n : Nat) (ks : List (Addr × List Int)), σ = [some (.ref a), some (.ref f), none, none, none, none, none, none, none, none] ∧ Same H H1 ∧ Fm H1 f n ks ∧ n ≤ 5 ∧ Clauses n (cls ks) ∧ ks.length ≤ 23
def J2 (H : Hp) (a f ml t : Addr) (n : Nat) (ks ms : List (Addr × List Int)) (σ : L2.St) (H1 : Hp) : Prop := σ = [some (.ref a), some (.ref f), some (.ref ml), some (.ref t), none, none, none, none, none, none] ∧ Same H H1 ∧ Fm H1 f n ks ∧ CsL H1 ml ms ∧ Told H1 t n ks
theorem ok_law {f : Addr} {fd : FuncData} (T : Txt mg) (F : C8.Fun K "law" "law" sLaw f fd)
    (cC : C8.Cal P w K mg base 1 "_law_cell" (spCell K) []) (cB : C8.Cal P w K mg base 4 "_law_bare" spBare []) (cH : C8.Cal P w K mg base 4 "_law_hopeless" spHopeless []) (cMo : C8.Cal P w K mg base 2 "_law_models" spModels [])
    (cLe : C8.Cal P w K mg base 7 "learn" spLearn []) (cG : C8.Cal P w K mg base 3 "_law_good_log" spGoodLog []) (cMk : C8.Mak P w K mg base 1 "Learner" C (spInit C) []) (cD : C8.Cal P w K mg base 1 "_law_draws" spDraws [])
    (cAs : C8.Met P w K mg base 6 C "assume" (spAssume C) []) (cFin : C8.Met P w K mg base 5 C "finished" (spFinished C) []) (cLd : C8.Met P w K mg base 1 C "learned" (spLearned C) []) (cMe : C8.Cal P w K mg base 1 "_law_meets" spMeets []) :
    FnOk P w K mg base C8.CX0 8 f fd ["_law_script"] (spLaw K) := by
  refine C8.fn0 F scLaw (fun vs H Q E h => ?_) (fun cdv A outer s H vs Q E hr h => ?_)
  · obtain ⟨a, ns, rfl, _⟩ := h
    rfl
  · obtain ⟨a, ns, rfl, hS, hnl, hbits, k⟩ := h
    have nd := scLaw.nd
    have hu5 : (A.deeper (PyProof.Rows.envOfC "law" (C8.fnScope sLaw) s.heap.objs.size f cdv)).units + 65 < cLine := by have := hr.un; omega
    refine ⟨_, pss_cons (ps_set (i := 1) nd rfl (Or.inl rfl) (C8.pe_c cB hr (by decide) rfl (pa_cons (C8.pe_c cC hr (by decide) rfl (pa_cons (pv 0) (pa_cons pe_int pa_nil))) (pa_cons pe_int (pa_cons pe_int pa_nil)))))
      (pss_cons (ps_if (pt_cmpR op_eq (pe_op op_mod (pe_callTy call_int1 (by rfl) T.int (by decide +kernel) (pa_cons (C8.pe_c cC hr (by decide) rfl (pa_cons (pv 0) (pa_cons pe_int pa_nil))) pa_nil)) pe_int) pe_int (nomark _))
        (pss_one (ps_set (i := 1) nd rfl (Or.inl rfl) (C8.pe_c cH hr (by decide) rfl (pa_cons (C8.pe_c cC hr (by decide) rfl (pa_cons (pv 0) (pa_cons pe_int pa_nil))) (pa_cons pe_int (pa_cons pe_int pa_nil)))))) pss_nil)
      (pss_cons (ps_set (i := 2) nd rfl (Or.inl rfl) (C8.pe_c cMo hr (by decide) rfl (pa_cons (pv 1) pa_nil)))
      (pss_cons (ps_set (i := 3) nd rfl (Or.inl rfl) (C8.pe_c cLe hr (by decide) rfl (pa_cons (pv 1) pa_nil)))
      (pss_cons (ps_if (PW.pt (pw_or (pt_not (pt_val (pe_callB RZ.call_isTy (by rfl) T.isi (by decide +kernel) (pa_cons (pv 3) (pa_cons (pe_bltn (v := .ty "tuple") (by rfl) T.tuple (by decide +kernel) rfl) pa_nil)))))
          (pw_or (pt_cmpR op_ne (pe_callB call_len_seq (by rfl) T.len PySem.boot_len (pa_cons (pv 3) pa_nil)) pe_int (nomark _))
          (pw_or1 (pt_cmpR op_ne (pe_ix ix_tup (pv 3) pe_int (fun _ _ => rfl)) (pe_ix ix_list (pe_lst (pa_cons pe_str (pa_cons pe_str pa_nil))) (pe_callTy call_int1 (by rfl) T.int (by decide +kernel) (pa_cons (pe_cmpR op_gt (pe_callB call_len_seq (by rfl) T.len PySem.boot_len (pa_cons (pv 2) pa_nil)) pe_int (nomark _)) pa_nil)) (fun _ _ => rfl)) (nomark _))))))
        (pss_one (ps_ret pe_bl)) pss_nil)
      (pss_cons (ps_if (PW.pt (pw_and (pt_cmpR op_eq (pe_ix ix_tup (pv 3) pe_int (fun _ _ => rfl)) pe_str (nomark _)) (pw_and1 (pt_cmpR (op_notInD hu5) (pe_ix ix_tup (pv 3) pe_int (fun _ _ => rfl)) (pv 2) rfl))))
        (pss_one (ps_ret pe_bl)) pss_nil)
      (pss_cons (ps_if (PW.pt (pw_and (pt_cmpR op_eq (pe_ix ix_tup (pv 3) pe_int (fun _ _ => rfl)) pe_str (nomark _)) (pw_and1 (PW.pt (pw_or (pt_not (pt_val (pe_callB RZ.call_isTy (by rfl) T.isi (by decide +kernel) (pa_cons (pe_ix ix_tup (pv 3) pe_int (fun _ _ => rfl)) (pa_cons (pe_bltn (v := .ty "tuple") (by rfl) T.tuple (by decide +kernel) rfl) pa_nil)))))
          (pw_or1 (pt_not (pt_val (C8.pe_c cG hr (by decide) rfl (pa_cons (pv 1) (pa_cons (pe_ix ix_tup (pv 3) pe_int (fun _ _ => rfl)) pa_nil)))))))))))
        (pss_one (ps_ret pe_bl)) pss_nil)
      (pss_cons (ps_set (i := 4) nd rfl (Or.inl rfl) (C8.pe_mk cMk hr (by decide) rfl (pa_cons (pv 1) pa_nil)))
      (pss_cons (ps_set (i := 5) nd rfl (Or.inl rfl) (C8.pe_c cD hr (by decide) rfl (pa_cons (C8.pe_c cC hr (by decide) rfl (pa_cons (pv 0) (pa_cons pe_int pa_nil))) (pa_cons pe_int pa_nil))))
      (pss_cons (ps_for PassesOwn.never rfl (pi_range1 (by rfl) T.range (pa_cons (pe_op op_mul pe_int (pe_callTy call_int1 (by rfl) T.int (by decide +kernel) (pa_cons (pe_cmpR op_gt (pe_ix ix_tup (pv 1) pe_int (fun _ _ => rfl)) pe_int (nomark _)) pa_nil))) pa_nil)) (pg_name (i := 6) nd rfl (Or.inl rfl))
        (pss_cons (ps_set (i := 7) nd rfl (Or.inl rfl) (pe_op op_add pe_int (pe_op op_mod (pe_ix ix_list (pv 5) (pv 6) (fun _ _ => rfl)) (pe_ix ix_tup (pv 1) pe_int (fun _ _ => rfl)))))
        (pss_one (ps_expr (C8.pe_mt cAs hr (by decide) (pv 4) (pa_cons (pe_ix ix_list (pe_lst (pa_cons (pv 7) (pa_cons (pe_un un_neg (pv 7)) pa_nil))) (pe_op op_mod (pe_op op_fdiv (pe_ix ix_list (pv 5) (pv 6) (fun _ _ => rfl)) pe_int) pe_int) (fun _ _ => rfl)) pa_nil))))))
      (pss_cons (ps_if (PW.pt (pw_and (pt_val (C8.pe_mt0 cFin hr (by decide) (pv 4))) (pw_and1 (pt_cmpR op_gt (pe_callB call_len_seq (by rfl) T.len PySem.boot_len (pa_cons (pv 2) pa_nil)) pe_int (nomark _))))) (pss_one (ps_ret pe_bl)) pss_nil)
      (pss_cons (ps_if (pt_val (C8.pe_mt0 cFin hr (by decide) (pv 4))) (pss_one (ps_ret (C8.pe_c cG hr (by decide) rfl (pa_cons (pv 1) (pa_cons (pe_callTy call_tuple_of (by rfl) T.tuple (by decide +kernel) (pa_cons (pe_op op_cat (C8.pe_mt0 cLd hr (by decide) (pv 4)) (pe_lst (pa_cons (pe_tup pa_nil) pa_nil))) pa_nil)) pa_nil))))) pss_nil)
      (pss_cons (ps_for PassesOwn.never rfl (pi_list (C8.pe_mt0 cLd hr (by decide) (pv 4))) (pg_name (i := 8) nd rfl (Or.inr rfl))
        (pss_one (ps_if (pt_cmpR op_gt (pe_callB call_len_seq (by rfl) T.len PySem.boot_len (pa_cons
          (pe_lc (own := [("_law_cube", 9)]) (g := gName 9) (by rfl) nd (pi_list (pv 2)) (blkOk_by (N := nLaw) (sc := C8.fnScope sLaw) (by decide +kernel)) (fun _ _ _ _ _ => pg_name (i := 9) nd rfl (Or.inl rfl))
            (fun _ _ _ _ _ => pts_one (pt_not (pt_val (C8.pe_c cMe hr (by decide) rfl (pa_cons (pv 9) (pa_cons (pv 8) pa_nil)))))) (fun _ _ _ _ _ => pv 9)) pa_nil)) pe_int (nomark _)) (pss_one (ps_ret pe_bl)) pss_nil)))
      (pss_one (ps_ret pe_bl)))))))))))))), ?_⟩
    -- formula = bare(cell(script, 0), 5, 10)
    refine ⟨_, rfl, a, ns, 0, rfl, hS, hnl, _, rfl, big0 (getD_big hbits 0), fun H1 f n ks s1 hf hn hc hl => ?_⟩
    -- if int(cell(script, 1)) % 2 == 1
    dsimp only [gName]
    refine seq_mid (J1 H a) (fun D hD => ?_) ?_
    · refine ⟨_, rfl, a, ns, 1, rfl, s1.seq hS, hnl, .inl ⟨_, rfl, _, _, rfl, rfl, (by show (0 : Int) < 2; decide), rfl, _, rfl, ?_⟩⟩
      refine ite2 (fun _ => ?_) (fun _ => ?_)
      · refine ⟨_, rfl, a, ns, 0, rfl, s1.seq hS, hnl, _, rfl, getD_big hbits 0, fun H2 f2 n2 ks2 s2 hf2 hn2 hc2 hl2 => ?_⟩
        exact hD _ _ ⟨f2, n2, ks2, rfl, s1.trans s2, hf2, hn2, hc2, hl2⟩
      · exact hD _ _ ⟨f, n, ks, rfl, s1, hf, hn, hc, by omega⟩
    · rintro σ H1 ⟨f, n, ks, rfl, s1, hf, hn, hc, hl⟩
      have hn40 : n ≤ 40 := by omega
      -- models, told
      refine ⟨_, rfl, f, n, ks, rfl, hf, hn, hc, by omega, fun H2 ml ms s2 hms hmm hml => ?_⟩
      refine ⟨_, rfl, f, n, ks, rfl, hf.same s2, hn, hc, by omega, fun H3 t s3 told => ?_⟩
      have hmx : ∀ {U : List Int}, Model n (cls ks) U → 0 < ms.length := fun {U} hU => by
        have := (hmm U).mpr hU
        rw [← cls_len]
        exact List.length_pos_of_mem this
      have hme : (∀ U : List Int, ¬ Model n (cls ks) U) → ms.length = 0 := fun hno => by
        rw [← cls_len]
        exact List.length_eq_zero_iff.mpr (List.eq_nil_iff_forall_not_mem.mpr fun U hU => hno U ((hmm U).mp hU))
      have s13 := s1.trans (s2.trans s3)
      have start2 : J2 H a f ml t n ks ms [some (.ref a), some (.ref f), some (.ref ml), some (.ref t), none, none, none, none, none, none] H3 := ⟨rfl, s13, (hf.same s2).same s3, hms.same s3, told⟩
      -- the form of what is told
      dsimp only [gName]
      refine seq_mid (J2 H a f ml t n ks ms) (fun D hD => ?_) ?_
      · have hms3 := hms.same s3
        have fin : ∀ (l : Addr) (o : HO), H3 l = none → J2 H a f ml t n ks ms [some (.ref a), some (.ref f), some (.ref ml), some (.ref t), none, none, none, none, none, none] (upd H3 l o) := fun l o hl' =>
          ⟨rfl, Same.put (s13.free hl') s13, ((hf.same s2).same s3).same (Same.new hl'), hms3.same (Same.new hl'), told.same (Same.new hl')⟩
        rcases told with ⟨u, r, ht, hu, hmod⟩ | ⟨u, e, gs, ht, hu, hlea, hcon, hgl⟩
        · refine ⟨_, rfl, _, "tuple", rfl, .tup ht, _, rfl, ?_⟩
          refine iteF ⟨_, rfl, t, _, rfl, .inr (SqT.of ht), rfl, _, rfl, ?_⟩
          refine iteNS rfl ⟨_, rfl, t, _, 0, .str "model", rfl, rfl, SqT.of ht, atI_nat (j := 0) rfl, (by show 2 ≤ sizeLine; decide), fun l hl' => ?_⟩
          refine ⟨_, rfl, ml, _, rfl, .inl (SqL.of (Same.new hl' _ _ hms3.1)), _, _, rfl, rfl, .inr ⟨_, rfl, l, _, _, .str "model", rfl, rfl, SqL.of upd_same, ?_, rfl, _, rfl, ?_⟩⟩
          · have h0 := hmx hmod
            rw [rfs_len, decide_eq_true (show (0 : Int) < (ms.length : Int) by omega), if_pos rfl]
            exact atI_nat (j := 1) rfl
          · exact iteNS rfl (hD _ _ (fin l _ hl'))
        · refine ⟨_, rfl, _, "tuple", rfl, .tup ht, _, rfl, ?_⟩
          refine iteF ⟨_, rfl, t, _, rfl, .inr (SqT.of ht), rfl, _, rfl, ?_⟩
          refine iteNS rfl ⟨_, rfl, t, _, 0, .str "log", rfl, rfl, SqT.of ht, atI_nat (j := 0) rfl, (by show 2 ≤ sizeLine; decide), fun l hl' => ?_⟩
          refine ⟨_, rfl, ml, _, rfl, .inl (SqL.of (Same.new hl' _ _ hms3.1)), _, _, rfl, rfl, .inr ⟨_, rfl, l, _, _, .str "log", rfl, rfl, SqL.of upd_same, ?_, rfl, _, rfl, ?_⟩⟩
          · have h0 := hme fun U hU => hlea.none hcon hU
            rw [rfs_len, decide_eq_false (show ¬ (0 : Int) < (ms.length : Int) by omega), if_neg Bool.false_ne_true]
            exact atI_nat (j := 0) rfl
          · exact iteNS rfl (hD _ _ (fin l _ hl'))
      · rintro σ H4 ⟨rfl, s4, hf4, hms4, told4⟩
        -- a model is one of the models
        refine seq_mid (J2 H a f ml t n ks ms) (fun D hD => ?_) ?_
        · have fin := hD _ _ (show J2 H a f ml t n ks ms [some (.ref a), some (.ref f), some (.ref ml), some (.ref t), none, none, none, none, none, none] H4 from ⟨rfl, s4, hf4, hms4, told4⟩)
          rcases told4 with ⟨u, r, ht, hu, hmod⟩ | ⟨u, e, gs, ht, hu, hlea, hcon, hgl⟩
          · refine ⟨_, rfl, t, _, 0, .str "model", rfl, rfl, SqT.of ht, atI_nat (j := 0) rfl, rfl, _, rfl, ?_⟩
            rw [decide_eq_true (show V.str ("model" : Str) = V.str ("model" : Str) from rfl)]
            refine iteT ⟨_, rfl, t, _, 1, .ref u, rfl, rfl, SqT.of ht, atI_nat (j := 1) rfl, _, rfl, tupD r, _, dp_tup hu, dp_list hms4, shaped_tup r, shaped_tups _, _, rfl, ?_⟩
            rw [any_eqv, decide_eq_true ((hmm r).mpr hmod)]
            exact iteF fin
          · refine ⟨_, rfl, t, _, 0, .str "log", rfl, rfl, SqT.of ht, atI_nat (j := 0) rfl, rfl, _, rfl, ?_⟩
            rw [decide_eq_false strLM]
            exact iteF (iteF fin)
        · rintro σ H5 ⟨rfl, s5, hf5, hms5, told5⟩
          -- a log is good
          refine seq_mid (J2 H a f ml t n ks ms) (fun D hD => ?_) ?_
          · have fin : ∀ H6 : Hp, Same H5 H6 → D.nx [some (.ref a), some (.ref f), some (.ref ml), some (.ref t), none, none, none, none, none, none] H6 := fun H6 s6 => hD _ _ ⟨rfl, s5.trans s6, hf5.same s6, hms5.same s6, told5.same s6⟩
            rcases told5 with ⟨u, r, ht, hu, hmod⟩ | ⟨u, e, gs, ht, hu, hlea, hcon, hgl⟩
            · refine ⟨_, rfl, t, _, 0, .str "model", rfl, rfl, SqT.of ht, atI_nat (j := 0) rfl, rfl, _, rfl, ?_⟩
              rw [decide_eq_false strML]
              exact iteF (iteF (fin H5 (Same.refl _)))
            · refine ⟨_, rfl, t, _, 0, .str "log", rfl, rfl, SqT.of ht, atI_nat (j := 0) rfl, rfl, _, rfl, ?_⟩
              rw [decide_eq_true (show V.str ("log" : Str) = V.str ("log" : Str) from rfl)]
              refine iteT ⟨_, rfl, t, _, 1, .ref u, rfl, rfl, SqT.of ht, atI_nat (j := 1) rfl, _, "tuple", rfl, .tup hu.1, _, rfl, ?_⟩
              refine iteF ⟨_, rfl, _, rfl, t, _, 1, .ref u, rfl, rfl, SqT.of ht, atI_nat (j := 1) rfl, f, u, e, n, ks, gs, rfl, hf5, hu, hn40, hc, by omega, hlea, hcon, fun H6 s6 => ⟨_, rfl, ?_⟩⟩
              exact iteF (fin H6 s6)
          · rintro σ H6 ⟨rfl, s6, hf6, hms6, _⟩
            -- learner = Learner(formula)
            refine ⟨_, rfl, fun p dx np ndx nex => ?_⟩
            refine ⟨p, f, dx, n, ks, rfl, upd_same, Fm.same (fun b o e => by rw [upd_ne (ne_of_none e np), upd_ne (ne_of_none e ndx)]; exact e) hf6, fun H7 l al L7 hl0 hal0 keep => ⟨rfl, ?_⟩⟩
            have s67 : Same H6 H7 := Same.made np ndx keep
            have fr : ∀ {b : Addr}, (upd (upd H6 dx (.own p)) p (.ins C dx [])) b = none → H6 b = none := fun {b} e => by
              by_cases h1 : b = p
              · rw [h1]; exact np
              · by_cases h2 : b = dx
                · rw [h2]; exact ndx
                · rw [upd_ne h1, upd_ne h2] at e
                  exact e
            have hl6 := fr hl0
            have ha6 := fr hal0
            -- draws
            refine ⟨_, rfl, a, ns, 2, rfl, (s6.trans s67).seq hS, hnl, _, 40, rfl, big0 (getD_big hbits 2), by decide, fun H8 dr ds s8 hds hdl hdr => ?_⟩
            have L8 := L7.same s8
            have s68 := s67.trans s8
            have hdl' : (ds.map V.int).length = 40 := by rw [List.length_map]; exact hdl
            have nel : dr ≠ l := fun e => by
              subst e
              have h1 := L8.ld.1
              rw [hds] at h1
              have h2 : ds.map V.int = rfs [] := by
                have := Option.some.inj h1
                injection this
              rw [h2] at hdl'
              cases hdl'
            have nea : dr ≠ al := fun e => by
              subst e
              have h1 : H8 dr = some (.lst (([] : List Int).map V.int)) := L8.as
              rw [hds] at h1
              have h2 : ds.map V.int = [] := by
                have := Option.some.inj h1
                injection this
              rw [h2] at hdl'
              cases hdl'
            -- the drive
            have hf8 := hf6.same s68
            obtain ⟨cl8, hf81, _⟩ := hf8
            refine ⟨_, rfl, f, _, 0, .int n, rfl, rfl, SqT.of hf81, atI_nat (j := 0) rfl, _, _, rfl, rfl, .inr ⟨_, rfl, _, _, rfl, rfl, .inl ⟨by decide, by decide⟩, _, rfl, (turns_b n).1, (turns_b n).2, ?_⟩⟩
            refine for_range (lo := 0) (fun i σ H9 => ∃ (ls : List (Addr × List Int)) (A : List Int) (v6 v7 : Option V), σ = [some (.ref a), some (.ref f), some (.ref ml), some (.ref t), some (.ref p), some (.ref dr), v6, v7, none, none] ∧ Same H6 H9 ∧ Lr C H9 p f l al n ks ls A ∧ Ls H9 dr ds ∧ LInv n (cls ks) (cls ls) A ∧ ls.length ≤ i ∧ ls.length ≤ 40)
              ⟨[], [], none, none, rfl, s68, L8, hds, ⟨Lits.nil, Learnt.nil, fun _ => rfl⟩, Nat.le_refl _, Nat.zero_le _⟩ ?_ ?_
            · rintro i σ H9 hi ⟨ls, A, v6, v7, rfl, s9, L9, hd9, inv, hli, hl40⟩
              obtain ⟨hi40, hn0⟩ := turns_ok hi
              obtain ⟨d, e0, _⟩ := drawn_k hdr (j := i) (by omega)
              obtain ⟨cl9, hf9, _⟩ := hf6.same s9
              obtain ⟨dx9, hp9⟩ := L9.ob
              have b1 := Int.emod_nonneg d (show (n : Int) ≠ 0 by omega)
              have b2 := Int.emod_lt_of_pos d (show (0 : Int) < (n : Int) by omega)
              have p1 := Int.emod_nonneg (d / 5) (show (2 : Int) ≠ 0 by decide)
              have p2 := Int.emod_lt_of_pos (d / 5) (show (0 : Int) < 2 by decide)
              obtain ⟨x, g0, g1⟩ := pickv (1 + d % (n : Int)) p1 p2
              refine ⟨_, rfl, _, rfl, dr, _, _, .int d, rfl, rfl, SqL.of hd9, e0, _, rfl, f, _, 0, .int n, rfl, rfl, SqT.of hf9, atI_nat (j := 0) rfl, _, _, rfl, rfl, by omega, _, _, rfl, rfl, ?_⟩
              refine ⟨_, rfl, p, _, _, rfl, hp9, lf_no _ _ _ (by decide +kernel) (by decide +kernel) (by decide +kernel), _, rfl, _, rfl, _, rfl, (by show 2 ≤ sizeLine; decide), fun l2 hl2 => ?_⟩
              have t1 : Same H9 (upd H9 l2 (.lst [V.int (1 + d % (n : Int)), V.int (-(1 + d % (n : Int)))])) := Same.new hl2
              refine ⟨_, rfl, _, rfl, dr, _, _, .int d, rfl, rfl, SqL.of (t1 _ _ hd9), e0, _, _, rfl, rfl, ⟨by decide, by decide⟩, _, _, rfl, rfl, (by show (0 : Int) < 2; decide), l2, _, _, .int x, rfl, rfl, SqL.of upd_same, g0, ?_⟩
              refine ⟨p, f, l, al, n, ks, ls, A, x, rfl, L9.same t1, ⟨hn40, hc, inv.lea.ok, by omega⟩, by omega, by rcases g1 with g1 | g1 <;> omega, inv, fun H10 v ls' A' L10 b10 st => ?_⟩
              have inv' := st.inv inv (by rcases g1 with g1 | g1 <;> omega)
              have hlen := st.len
              rw [cls_len, cls_len] at hlen
              exact ⟨ls', A', _, _, rfl, But.same (s9.trans t1) b10 hl6 ha6, L10, b10 _ _ (t1 _ _ hd9) nel nea, inv', by omega, by omega⟩
            · rintro σ H9 ⟨ls, A, v6, v7, rfl, s9, L9, hd9, inv, _, hl40⟩
              have ok : Okl n ks ls := ⟨hn40, hc, inv.lea.ok, by omega⟩
              obtain ⟨dx9, hp9⟩ := L9.ob
              -- if learner.finished() and len(models) > 0
              refine ⟨_, rfl, p, _, _, rfl, hp9, lf_no _ _ _ (by decide +kernel) (by decide +kernel) (by decide +kernel), p, f, l, al, n, ks, ls, A, rfl, L9, ok, fun H10 s10 hc10 => ⟨_, rfl, ?_⟩, fun H10 s10 hnc => ⟨_, rfl, ?_⟩⟩
              · have s610 := s9.trans s10
                have L10 := L9.same s10
                obtain ⟨dx10, hp10⟩ := L10.ob
                have h0 := hme fun U hU => inv.lea.none hc10 hU
                refine iteT ⟨_, rfl, ml, _, rfl, .inl (SqL.of (hms6.same s610).1), _, _, rfl, rfl, _, rfl, ?_⟩
                rw [rfs_len, decide_eq_false (show ¬ (0 : Int) < (ms.length : Int) by omega)]
                -- if learner.finished(): return good_log(..)
                refine iteF ⟨_, rfl, p, _, _, rfl, hp10, lf_no _ _ _ (by decide +kernel) (by decide +kernel) (by decide +kernel), p, f, l, al, n, ks, ls, A, rfl, L10, ok, fun H11 s11 _ => ⟨_, rfl, ?_⟩, fun H11 s11 hnc => absurd hc10 hnc⟩
                have L11 := L10.same s11
                obtain ⟨dx11, hp11⟩ := L11.ob
                refine iteT ⟨_, rfl, _, rfl, p, _, _, rfl, hp11, lf_no _ _ _ (by decide +kernel) (by decide +kernel) (by decide +kernel), p, f, l, al, n, ks, ls, A, rfl, L11, fun H12 lq s12 hlq => ?_⟩
                refine ⟨Nat.zero_le _, fun e he => ⟨(by show 1 ≤ sizeLine; decide), fun l3 hl3 => ?_⟩⟩
                have t1 : Same H12 (upd H12 e (.tup [])) := Same.new he
                have t2 := t1.trans (Same.new (o := .lst [V.ref e]) hl3)
                refine ⟨lq, l3, _, _, rfl, rfl, t2 _ _ hlq.1, upd_same, Nat.le_of_lt (small1000 (by rw [rfs_len]; show ls.length + 1 ≤ 1000; omega)), fun l4 hl4 => ?_⟩
                have t3 := t2.trans (Same.new (o := .lst (rfs ls ++ [V.ref e])) hl4)
                refine ⟨l4, _, rfl, .inl ⟨SqL.of upd_same, fun tt htt => ?_⟩⟩
                have t4 := t3.trans (Same.new (o := .tup (rfs ls ++ [V.ref e])) htt)
                have s612 := (s610.trans s11).trans (s12.trans t4)
                refine ⟨f, tt, e, n, ks, ls, rfl, hf6.same s612, ⟨by rw [upd_same]; simp [rfs], fun m hm => ?_⟩, hn40, hc, by omega, inv.lea, hc10, fun H13 s13' => k H13 (s6.trans (s612.trans s13'))⟩
                rcases List.mem_append.mp hm with hm | hm
                · exact t4 _ _ (hlq.2 m hm)
                · rw [List.mem_singleton.mp hm]
                  exact Same.new htt _ _ (Same.new hl4 _ _ (Same.new hl3 _ _ upd_same))
              · have s610 := s9.trans s10
                have L10 := L9.same s10
                obtain ⟨dx10, hp10⟩ := L10.ob
                refine iteF (iteF ?_)
                refine ⟨_, rfl, p, _, _, rfl, hp10, lf_no _ _ _ (by decide +kernel) (by decide +kernel) (by decide +kernel), p, f, l, al, n, ks, ls, A, rfl, L10, ok, fun H11 s11 hc11 => absurd hc11 hnc, fun H11 s11 _ => ⟨_, rfl, ?_⟩⟩
                have L11 := L10.same s11
                obtain ⟨dx11, hp11⟩ := L11.ob
                -- for clause in learner.learned()
                refine iteF ⟨_, rfl, p, _, _, rfl, hp11, lf_no _ _ _ (by decide +kernel) (by decide +kernel) (by decide +kernel), p, f, l, al, n, ks, ls, A, rfl, L11, fun H12 lq s12 hlq => ?_⟩
                have s612 := (s610.trans s11).trans s12
                refine ⟨lq, rfl, ⟨_, SqL.of hlq.1⟩, for_list (K := K) (a := lq) (xs := rfs ls) (fun i σ H13 => ∃ v8 : Option V, σ = [some (.ref a), some (.ref f), some (.ref ml), some (.ref t), some (.ref p), some (.ref dr), v6, v7, v8, none] ∧ Same H12 H13) ⟨none, rfl, Same.refl _⟩ (fun i σ H13 _ ⟨_, _, e⟩ => SqL.of (e _ _ hlq.1)) ?_ ?_⟩
                · rintro i x σ H13 hi ⟨v8, rfl, s13'⟩
                  obtain ⟨c, hci, rfl⟩ := ref_at hi
                  have hcm := List.mem_of_getElem? hci
                  have hcc : c.2 ∈ cls ls := List.mem_map.mpr ⟨c, hcm, rfl⟩
                  have hcok := inv.lea.ok c.2 hcc
                  have hcl := lits_len n c.2 hcok.lits
                  have hms13 := hms6.same (s612.trans s13')
                  refine ⟨_, rfl, ml, rfl, ⟨_, SqL.of hms13.1⟩, fun D hD => ?_⟩
                  refine lc_list (K := K) (a := ml) (xs := rfs ms) (fun j H14 => H14 D = some (.lst []) ∧ Same H13 H14) ⟨upd_same, Same.new hD⟩ (fun j H14 _ ⟨_, e⟩ => SqL.of (e _ _ hms13.1)) ?_ ?_
                  · rintro j y H14 hj ⟨hD14, s14⟩
                    obtain ⟨m, hmj, rfl⟩ := ref_at hj
                    have hmm' := List.mem_of_getElem? hmj
                    have hmod := (hmm m.2).mp (List.mem_map.mpr ⟨m, hmm', rfl⟩)
                    refine ⟨rfl, _, rfl, _, rfl, m.1, c.1, m.2, c.2, rfl, s14 _ _ (hms13.2 m hmm'), (s13'.trans s14) _ _ (hlq.2 c hcm), by omega, fun H15 bb s15 hb => ⟨_, rfl, ?_⟩⟩
                    have hbt : bb = true := hb.mpr ((inv.lea.model hmod).2 c.2 (List.mem_append_right _ hcc))
                    subst hbt
                    exact iteF ⟨s15 _ _ hD14, s14.trans s15⟩
                  · rintro H14 ⟨hD14, s14⟩
                    refine ⟨D, _, rfl, .inl (SqL.of hD14), _, _, rfl, rfl, _, rfl, ?_⟩
                    rw [decide_eq_false (show ¬ (0 : Int) < (([] : List V).length : Int) by decide)]
                    exact iteF ⟨_, rfl, s13'.trans s14⟩
                · rintro σ H13 ⟨v8, rfl, s13'⟩
                  exact k H13 (s6.trans (s612.trans s13'))
end
end Rb
/-! ## D17 -/
namespace Rb
open PySem L2
theorem all_mk {l : PySem.W.OpenLaw} {w : World} {K : PySem.W.Frag} {h : Heap} {mg : Str → Option Value} {fa C : Addr} {tM : Tok} (X : K.In h) (G : h.Ns mainGlobals mg) (hfa : mg "law" = some (.ref fa))
    {oc1 kV1 dc1 pm1 cd1 ct1 : Value} {od1 an1 : Option Addr} {sl1 : Array (Option Value)} {f1 : Addr}
    (a1 : PySem.W.nsIn K mainGlobals "made_clause" = some (some (.ref f1))) (l1 : K.lookup f1 = some ⟨oc1, od1, .func (PySem.W.fnOf "made_clause" "made_clause" (C8.fnArgs sMadeClause) (C8.fnBody sMadeClause) (C8.fnScope sMadeClause) .none kV1 dc1 pm1 an1 cd1 ct1), sl1⟩) (c1 : PySem.W.codeIn K cd1 "made_clause" = true) (k1 : PySem.W.keepIn K (.ref f1) = true)
    {oc2 kV2 dc2 pm2 cd2 ct2 : Value} {od2 an2 : Option Addr} {sl2 : Array (Option Value)} {f2 : Addr}
    (a2 : PySem.W.nsIn K mainGlobals "check_count" = some (some (.ref f2))) (l2 : K.lookup f2 = some ⟨oc2, od2, .func (PySem.W.fnOf "check_count" "check_count" (C8.fnArgs sCheckCount) (C8.fnBody sCheckCount) (C8.fnScope sCheckCount) .none kV2 dc2 pm2 an2 cd2 ct2), sl2⟩) (c2 : PySem.W.codeIn K cd2 "check_count" = true) (k2 : PySem.W.keepIn K (.ref f2) = true)
    {oc3 kV3 dc3 pm3 cd3 ct3 : Value} {od3 an3 : Option Addr} {sl3 : Array (Option Value)} {f3 : Addr}
    (a3 : PySem.W.nsIn K mainGlobals "made_formula" = some (some (.ref f3))) (l3 : K.lookup f3 = some ⟨oc3, od3, .func (PySem.W.fnOf "made_formula" "made_formula" (C8.fnArgs sMadeFormula) (C8.fnBody sMadeFormula) (C8.fnScope sMadeFormula) .none kV3 dc3 pm3 an3 cd3 ct3), sl3⟩) (c3 : PySem.W.codeIn K cd3 "made_formula" = true) (k3 : PySem.W.keepIn K (.ref f3) = true)
    {oc4 kV4 dc4 pm4 cd4 ct4 : Value} {od4 an4 : Option Addr} {sl4 : Array (Option Value)} {f4 : Addr}
    (a4 : PySem.W.nsIn K mainGlobals "forced" = some (some (.ref f4))) (l4 : K.lookup f4 = some ⟨oc4, od4, .func (PySem.W.fnOf "forced" "forced" (C8.fnArgs sForced) (C8.fnBody sForced) (C8.fnScope sForced) .none kV4 dc4 pm4 an4 cd4 ct4), sl4⟩) (c4 : PySem.W.codeIn K cd4 "forced" = true) (k4 : PySem.W.keepIn K (.ref f4) = true)
    {oc5 kV5 dc5 pm5 cd5 ct5 : Value} {od5 an5 : Option Addr} {sl5 : Array (Option Value)} {f5 : Addr}
    (a5 : PySem.W.nsIn K mainGlobals "free_variables" = some (some (.ref f5))) (l5 : K.lookup f5 = some ⟨oc5, od5, .func (PySem.W.fnOf "free_variables" "free_variables" (C8.fnArgs sFree) (C8.fnBody sFree) (C8.fnScope sFree) .none kV5 dc5 pm5 an5 cd5 ct5), sl5⟩) (c5 : PySem.W.codeIn K cd5 "free_variables" = true) (k5 : PySem.W.keepIn K (.ref f5) = true)
    {oc6 kV6 dc6 pm6 cd6 ct6 : Value} {od6 an6 : Option Addr} {sl6 : Array (Option Value)} {f6 : Addr}
    (a6 : PySem.W.nsIn K mainGlobals "negated" = some (some (.ref f6))) (l6 : K.lookup f6 = some ⟨oc6, od6, .func (PySem.W.fnOf "negated" "negated" (C8.fnArgs sNegated) (C8.fnBody sNegated) (C8.fnScope sNegated) .none kV6 dc6 pm6 an6 cd6 ct6), sl6⟩) (c6 : PySem.W.codeIn K cd6 "negated" = true) (k6 : PySem.W.keepIn K (.ref f6) = true)
    {oc7 kV7 dc7 pm7 cd7 ct7 : Value} {od7 an7 : Option Addr} {sl7 : Array (Option Value)} {f7 : Addr}
    (a7 : PySem.W.nsIn K mainGlobals "with_clauses" = some (some (.ref f7))) (l7 : K.lookup f7 = some ⟨oc7, od7, .func (PySem.W.fnOf "with_clauses" "with_clauses" (C8.fnArgs sWith) (C8.fnBody sWith) (C8.fnScope sWith) .none kV7 dc7 pm7 an7 cd7 ct7), sl7⟩) (c7 : PySem.W.codeIn K cd7 "with_clauses" = true) (k7 : PySem.W.keepIn K (.ref f7) = true)
    {oc8 kV8 dc8 pm8 cd8 ct8 : Value} {od8 an8 : Option Addr} {sl8 : Array (Option Value)} {f8 : Addr}
    (a8 : PySem.W.nsIn K mainGlobals "learn" = some (some (.ref f8))) (l8 : K.lookup f8 = some ⟨oc8, od8, .func (PySem.W.fnOf "learn" "learn" (C8.fnArgs sLearn) (C8.fnBody sLearn) (C8.fnScope sLearn) .none kV8 dc8 pm8 an8 cd8 ct8), sl8⟩) (c8 : PySem.W.codeIn K cd8 "learn" = true) (k8 : PySem.W.keepIn K (.ref f8) = true)
    {oc9 kV9 dc9 pm9 cd9 ct9 : Value} {od9 an9 : Option Addr} {sl9 : Array (Option Value)} {f9 : Addr}
    (a9 : PySem.W.nsIn K mainGlobals "_law_cell" = some (some (.ref f9))) (l9 : K.lookup f9 = some ⟨oc9, od9, .func (PySem.W.fnOf "_law_cell" "_law_cell" (C8.fnArgs sCell) (C8.fnBody sCell) (C8.fnScope sCell) .none kV9 dc9 pm9 an9 cd9 ct9), sl9⟩) (c9 : PySem.W.codeIn K cd9 "_law_cell" = true) (k9 : PySem.W.keepIn K (.ref f9) = true)
    {oc10 kV10 dc10 pm10 cd10 ct10 : Value} {od10 an10 : Option Addr} {sl10 : Array (Option Value)} {f10 : Addr}
    (a10 : PySem.W.nsIn K mainGlobals "_law_draws" = some (some (.ref f10))) (l10 : K.lookup f10 = some ⟨oc10, od10, .func (PySem.W.fnOf "_law_draws" "_law_draws" (C8.fnArgs sDraws) (C8.fnBody sDraws) (C8.fnScope sDraws) .none kV10 dc10 pm10 an10 cd10 ct10), sl10⟩) (c10 : PySem.W.codeIn K cd10 "_law_draws" = true) (k10 : PySem.W.keepIn K (.ref f10) = true)
    {oc11 kV11 dc11 pm11 cd11 ct11 : Value} {od11 an11 : Option Addr} {sl11 : Array (Option Value)} {f11 : Addr}
    (a11 : PySem.W.nsIn K mainGlobals "_law_clause_of" = some (some (.ref f11))) (l11 : K.lookup f11 = some ⟨oc11, od11, .func (PySem.W.fnOf "_law_clause_of" "_law_clause_of" (C8.fnArgs sClauseOf) (C8.fnBody sClauseOf) (C8.fnScope sClauseOf) .none kV11 dc11 pm11 an11 cd11 ct11), sl11⟩) (c11 : PySem.W.codeIn K cd11 "_law_clause_of" = true) (k11 : PySem.W.keepIn K (.ref f11) = true)
    {oc12 kV12 dc12 pm12 cd12 ct12 : Value} {od12 an12 : Option Addr} {sl12 : Array (Option Value)} {f12 : Addr}
    (a12 : PySem.W.nsIn K mainGlobals "_law_rows" = some (some (.ref f12))) (l12 : K.lookup f12 = some ⟨oc12, od12, .func (PySem.W.fnOf "_law_rows" "_law_rows" (C8.fnArgs sRows) (C8.fnBody sRows) (C8.fnScope sRows) .none kV12 dc12 pm12 an12 cd12 ct12), sl12⟩) (c12 : PySem.W.codeIn K cd12 "_law_rows" = true) (k12 : PySem.W.keepIn K (.ref f12) = true)
    {oc13 kV13 dc13 pm13 cd13 ct13 : Value} {od13 an13 : Option Addr} {sl13 : Array (Option Value)} {f13 : Addr}
    (a13 : PySem.W.nsIn K mainGlobals "_law_of_rows" = some (some (.ref f13))) (l13 : K.lookup f13 = some ⟨oc13, od13, .func (PySem.W.fnOf "_law_of_rows" "_law_of_rows" (C8.fnArgs sOfRows) (C8.fnBody sOfRows) (C8.fnScope sOfRows) .none kV13 dc13 pm13 an13 cd13 ct13), sl13⟩) (c13 : PySem.W.codeIn K cd13 "_law_of_rows" = true) (k13 : PySem.W.keepIn K (.ref f13) = true)
    {oc14 kV14 dc14 pm14 cd14 ct14 : Value} {od14 an14 : Option Addr} {sl14 : Array (Option Value)} {f14 : Addr}
    (a14 : PySem.W.nsIn K mainGlobals "_law_formula" = some (some (.ref f14))) (l14 : K.lookup f14 = some ⟨oc14, od14, .func (PySem.W.fnOf "_law_formula" "_law_formula" (C8.fnArgs sFormula) (C8.fnBody sFormula) (C8.fnScope sFormula) .none kV14 dc14 pm14 an14 cd14 ct14), sl14⟩) (c14 : PySem.W.codeIn K cd14 "_law_formula" = true) (k14 : PySem.W.keepIn K (.ref f14) = true)
    {oc15 kV15 dc15 pm15 cd15 ct15 : Value} {od15 an15 : Option Addr} {sl15 : Array (Option Value)} {f15 : Addr}
    (a15 : PySem.W.nsIn K mainGlobals "_law_bare" = some (some (.ref f15))) (l15 : K.lookup f15 = some ⟨oc15, od15, .func (PySem.W.fnOf "_law_bare" "_law_bare" (C8.fnArgs sBare) (C8.fnBody sBare) (C8.fnScope sBare) .none kV15 dc15 pm15 an15 cd15 ct15), sl15⟩) (c15 : PySem.W.codeIn K cd15 "_law_bare" = true) (k15 : PySem.W.keepIn K (.ref f15) = true)
    {oc16 kV16 dc16 pm16 cd16 ct16 : Value} {od16 an16 : Option Addr} {sl16 : Array (Option Value)} {f16 : Addr}
    (a16 : PySem.W.nsIn K mainGlobals "_law_assignments" = some (some (.ref f16))) (l16 : K.lookup f16 = some ⟨oc16, od16, .func (PySem.W.fnOf "_law_assignments" "_law_assignments" (C8.fnArgs sAssignments) (C8.fnBody sAssignments) (C8.fnScope sAssignments) .none kV16 dc16 pm16 an16 cd16 ct16), sl16⟩) (c16 : PySem.W.codeIn K cd16 "_law_assignments" = true) (k16 : PySem.W.keepIn K (.ref f16) = true)
    {oc17 kV17 dc17 pm17 cd17 ct17 : Value} {od17 an17 : Option Addr} {sl17 : Array (Option Value)} {f17 : Addr}
    (a17 : PySem.W.nsIn K mainGlobals "_law_meets" = some (some (.ref f17))) (l17 : K.lookup f17 = some ⟨oc17, od17, .func (PySem.W.fnOf "_law_meets" "_law_meets" (C8.fnArgs sMeets) (C8.fnBody sMeets) (C8.fnScope sMeets) .none kV17 dc17 pm17 an17 cd17 ct17), sl17⟩) (c17 : PySem.W.codeIn K cd17 "_law_meets" = true) (k17 : PySem.W.keepIn K (.ref f17) = true)
    {oc18 kV18 dc18 pm18 cd18 ct18 : Value} {od18 an18 : Option Addr} {sl18 : Array (Option Value)} {f18 : Addr}
    (a18 : PySem.W.nsIn K mainGlobals "_law_models" = some (some (.ref f18))) (l18 : K.lookup f18 = some ⟨oc18, od18, .func (PySem.W.fnOf "_law_models" "_law_models" (C8.fnArgs sModels) (C8.fnBody sModels) (C8.fnScope sModels) .none kV18 dc18 pm18 an18 cd18 ct18), sl18⟩) (c18 : PySem.W.codeIn K cd18 "_law_models" = true) (k18 : PySem.W.keepIn K (.ref f18) = true)
    {oc19 kV19 dc19 pm19 cd19 ct19 : Value} {od19 an19 : Option Addr} {sl19 : Array (Option Value)} {f19 : Addr}
    (a19 : PySem.W.nsIn K mainGlobals "_law_hopeless" = some (some (.ref f19))) (l19 : K.lookup f19 = some ⟨oc19, od19, .func (PySem.W.fnOf "_law_hopeless" "_law_hopeless" (C8.fnArgs sHopeless) (C8.fnBody sHopeless) (C8.fnScope sHopeless) .none kV19 dc19 pm19 an19 cd19 ct19), sl19⟩) (c19 : PySem.W.codeIn K cd19 "_law_hopeless" = true) (k19 : PySem.W.keepIn K (.ref f19) = true)
    {oc20 kV20 dc20 pm20 cd20 ct20 : Value} {od20 an20 : Option Addr} {sl20 : Array (Option Value)} {f20 : Addr}
    (a20 : PySem.W.nsIn K mainGlobals "_law_pushed" = some (some (.ref f20))) (l20 : K.lookup f20 = some ⟨oc20, od20, .func (PySem.W.fnOf "_law_pushed" "_law_pushed" (C8.fnArgs sPushed) (C8.fnBody sPushed) (C8.fnScope sPushed) .none kV20 dc20 pm20 an20 cd20 ct20), sl20⟩) (c20 : PySem.W.codeIn K cd20 "_law_pushed" = true) (k20 : PySem.W.keepIn K (.ref f20) = true)
    {oc21 kV21 dc21 pm21 cd21 ct21 : Value} {od21 an21 : Option Addr} {sl21 : Array (Option Value)} {f21 : Addr}
    (a21 : PySem.W.nsIn K mainGlobals "_law_opposite" = some (some (.ref f21))) (l21 : K.lookup f21 = some ⟨oc21, od21, .func (PySem.W.fnOf "_law_opposite" "_law_opposite" (C8.fnArgs sOpposite) (C8.fnBody sOpposite) (C8.fnScope sOpposite) .none kV21 dc21 pm21 an21 cd21 ct21), sl21⟩) (c21 : PySem.W.codeIn K cd21 "_law_opposite" = true) (k21 : PySem.W.keepIn K (.ref f21) = true)
    {oc22 kV22 dc22 pm22 cd22 ct22 : Value} {od22 an22 : Option Addr} {sl22 : Array (Option Value)} {f22 : Addr}
    (a22 : PySem.W.nsIn K mainGlobals "_law_at_once" = some (some (.ref f22))) (l22 : K.lookup f22 = some ⟨oc22, od22, .func (PySem.W.fnOf "_law_at_once" "_law_at_once" (C8.fnArgs sAtOnce) (C8.fnBody sAtOnce) (C8.fnScope sAtOnce) .none kV22 dc22 pm22 an22 cd22 ct22), sl22⟩) (c22 : PySem.W.codeIn K cd22 "_law_at_once" = true) (k22 : PySem.W.keepIn K (.ref f22) = true)
    {oc23 kV23 dc23 pm23 cd23 ct23 : Value} {od23 an23 : Option Addr} {sl23 : Array (Option Value)} {f23 : Addr}
    (a23 : PySem.W.nsIn K mainGlobals "_law_good_log" = some (some (.ref f23))) (l23 : K.lookup f23 = some ⟨oc23, od23, .func (PySem.W.fnOf "_law_good_log" "_law_good_log" (C8.fnArgs sGoodLog) (C8.fnBody sGoodLog) (C8.fnScope sGoodLog) .none kV23 dc23 pm23 an23 cd23 ct23), sl23⟩) (c23 : PySem.W.codeIn K cd23 "_law_good_log" = true) (k23 : PySem.W.keepIn K (.ref f23) = true)
    {oc24 kV24 dc24 pm24 cd24 ct24 : Value} {od24 an24 : Option Addr} {sl24 : Array (Option Value)} {f24 : Addr}
    (a24 : PySem.W.nsIn K mainGlobals "law" = some (some (.ref f24))) (l24 : K.lookup f24 = some ⟨oc24, od24, .func (PySem.W.fnOf "law" "law" (C8.fnArgs sLaw) (C8.fnBody sLaw) (C8.fnScope sLaw) .none kV24 dc24 pm24 an24 cd24 ct24), sl24⟩) (c24 : PySem.W.codeIn K cd24 "law" = true) (k24 : PySem.W.keepIn K (.ref f24) = true)
    (aC : PySem.W.nsIn K mainGlobals "Learner" = some (some (.ref C)))
    {oc31 kV31 dc31 pm31 cd31 ct31 : Value} {od31 an31 : Option Addr} {sl31 : Array (Option Value)} {f31 : Addr}
    (a31 : PySem.W.findIn K (.ref C) "__init__" = some (some (.ref f31))) (i31 : PySem.W.isFn K (.ref f31) = true) (l31 : K.lookup f31 = some ⟨oc31, od31, .func (PySem.W.fnOf "__init__" "Learner.__init__" (C8.fnArgs sInit) (C8.fnBody sInit) (C8.fnScope sInit) .none kV31 dc31 pm31 an31 cd31 ct31), sl31⟩) (c31 : PySem.W.codeIn K cd31 "Learner.__init__" = true) (k31 : PySem.W.keepIn K (.ref f31) = true)
    {oc32 kV32 dc32 pm32 cd32 ct32 : Value} {od32 an32 : Option Addr} {sl32 : Array (Option Value)} {f32 : Addr}
    (a32 : PySem.W.findIn K (.ref C) "learned" = some (some (.ref f32))) (i32 : PySem.W.isFn K (.ref f32) = true) (l32 : K.lookup f32 = some ⟨oc32, od32, .func (PySem.W.fnOf "learned" "Learner.learned" (C8.fnArgs sLearned) (C8.fnBody sLearned) (C8.fnScope sLearned) .none kV32 dc32 pm32 an32 cd32 ct32), sl32⟩) (c32 : PySem.W.codeIn K cd32 "Learner.learned" = true) (k32 : PySem.W.keepIn K (.ref f32) = true)
    {oc33 kV33 dc33 pm33 cd33 ct33 : Value} {od33 an33 : Option Addr} {sl33 : Array (Option Value)} {f33 : Addr}
    (a33 : PySem.W.findIn K (.ref C) "_known" = some (some (.ref f33))) (i33 : PySem.W.isFn K (.ref f33) = true) (l33 : K.lookup f33 = some ⟨oc33, od33, .func (PySem.W.fnOf "_known" "Learner._known" (C8.fnArgs sKnown) (C8.fnBody sKnown) (C8.fnScope sKnown) .none kV33 dc33 pm33 an33 cd33 ct33), sl33⟩) (c33 : PySem.W.codeIn K cd33 "Learner._known" = true) (k33 : PySem.W.keepIn K (.ref f33) = true)
    {oc34 kV34 dc34 pm34 cd34 ct34 : Value} {od34 an34 : Option Addr} {sl34 : Array (Option Value)} {f34 : Addr}
    (a34 : PySem.W.findIn K (.ref C) "knows" = some (some (.ref f34))) (i34 : PySem.W.isFn K (.ref f34) = true) (l34 : K.lookup f34 = some ⟨oc34, od34, .func (PySem.W.fnOf "knows" "Learner.knows" (C8.fnArgs sKnows) (C8.fnBody sKnows) (C8.fnScope sKnows) .none kV34 dc34 pm34 an34 cd34 ct34), sl34⟩) (c34 : PySem.W.codeIn K cd34 "Learner.knows" = true) (k34 : PySem.W.keepIn K (.ref f34) = true)
    {oc35 kV35 dc35 pm35 cd35 ct35 : Value} {od35 an35 : Option Addr} {sl35 : Array (Option Value)} {f35 : Addr}
    (a35 : PySem.W.findIn K (.ref C) "finished" = some (some (.ref f35))) (i35 : PySem.W.isFn K (.ref f35) = true) (l35 : K.lookup f35 = some ⟨oc35, od35, .func (PySem.W.fnOf "finished" "Learner.finished" (C8.fnArgs sFinished) (C8.fnBody sFinished) (C8.fnScope sFinished) .none kV35 dc35 pm35 an35 cd35 ct35), sl35⟩) (c35 : PySem.W.codeIn K cd35 "Learner.finished" = true) (k35 : PySem.W.keepIn K (.ref f35) = true)
    {oc36 kV36 dc36 pm36 cd36 ct36 : Value} {od36 an36 : Option Addr} {sl36 : Array (Option Value)} {f36 : Addr}
    (a36 : PySem.W.findIn K (.ref C) "_needed" = some (some (.ref f36))) (i36 : PySem.W.isFn K (.ref f36) = true) (l36 : K.lookup f36 = some ⟨oc36, od36, .func (PySem.W.fnOf "_needed" "Learner._needed" (C8.fnArgs sNeeded) (C8.fnBody sNeeded) (C8.fnScope sNeeded) .none kV36 dc36 pm36 an36 cd36 ct36), sl36⟩) (c36 : PySem.W.codeIn K cd36 "Learner._needed" = true) (k36 : PySem.W.keepIn K (.ref f36) = true)
    {oc37 kV37 dc37 pm37 cd37 ct37 : Value} {od37 an37 : Option Addr} {sl37 : Array (Option Value)} {f37 : Addr}
    (a37 : PySem.W.findIn K (.ref C) "assume" = some (some (.ref f37))) (i37 : PySem.W.isFn K (.ref f37) = true) (l37 : K.lookup f37 = some ⟨oc37, od37, .func (PySem.W.fnOf "assume" "Learner.assume" (C8.fnArgs sAssume) (C8.fnBody sAssume) (C8.fnScope sAssume) .none kV37 dc37 pm37 an37 cd37 ct37), sl37⟩) (c37 : PySem.W.codeIn K cd37 "Learner.assume" = true) (k37 : PySem.W.keepIn K (.ref f37) = true)
    (pgC : PySem.W.plainGet K C Str.empty = true) (hdC : PySem.W.hasDictIn K C = true) (poC : PySem.W.plainOver K C = true) (saC : PySem.W.findIn K (.ref C) "__setattr__" = some (some (.builtin "object.__setattr__"))) (mkC : PySem.W.makesIn K C = true) (kcC : PySem.W.keepIn K (.ref C) = true)
    (nF : PySem.W.findIn K (.ref C) "_formula" = some none) (nL : PySem.W.findIn K (.ref C) "_learned" = some none) (nA : PySem.W.findIn K (.ref C) "_assumptions" = some none)
    (z0 : PySem.W.nsIn K mainGlobals "set" = some none)
    (z1 : PySem.W.nsIn K mainGlobals "sorted" = some none)
    (z2 : PySem.W.nsIn K mainGlobals "tuple" = some none)
    (z3 : PySem.W.nsIn K mainGlobals "list" = some none)
    (z4 : PySem.W.nsIn K mainGlobals "len" = some none)
    (z5 : PySem.W.nsIn K mainGlobals "all" = some none)
    (z6 : PySem.W.nsIn K mainGlobals "abs" = some none)
    (z7 : PySem.W.nsIn K mainGlobals "range" = some none)
    (z8 : PySem.W.nsIn K mainGlobals "int" = some none)
    (z9 : PySem.W.nsIn K mainGlobals "isinstance" = some none)
    (aM : PySem.W.nsIn K mainGlobals "MOST_VARIABLES" = some (some (.int 40 tM))) :
    ∃ fd : FuncData, (∀ (s : Shared) (v : Value), BindsTo s fd ⟨[v], []⟩ [("_law_script", v)]) ∧ ∀ base : Heap, K.In base → base.Ns mainGlobals mg → FnOk l.prog w K mg base C8.CX0 8 fa fd ["_law_script"] (spLaw K) := by
  have e := hfa.symm.trans (PySem.W.mg_of X G a24)
  cases e
  have T : Txt mg := ⟨PySem.W.mg_none_of X G z0, PySem.W.mg_none_of X G z1, PySem.W.mg_none_of X G z2, PySem.W.mg_none_of X G z3, PySem.W.mg_none_of X G z4, PySem.W.mg_none_of X G z5, PySem.W.mg_none_of X G z6, PySem.W.mg_none_of X G z7, PySem.W.mg_none_of X G z8, PySem.W.mg_none_of X G z9, tM, PySem.W.mg_of X G aM⟩
  have TC : TxtC K C := ⟨⟨pgC, hdC, poC, saC⟩, nF, nL, nA⟩
  have mC := PySem.W.mg_of X G aC
  have D1 : C8.Def K mg "made_clause" sMadeClause f1 _ := ⟨⟨oc1, od1, .none, kV1, dc1, pm1, an1, cd1, ct1, sl1, rfl, l1, c1⟩, PySem.W.mg_of X G a1, k1⟩
  have b1 := D1.fn.binds rfl (ps := ["literals"]) fun _ _ _ _ _ _ us hl => match us, hl with | [_], _ => rfl
  have D2 : C8.Def K mg "check_count" sCheckCount f2 _ := ⟨⟨oc2, od2, .none, kV2, dc2, pm2, an2, cd2, ct2, sl2, rfl, l2, c2⟩, PySem.W.mg_of X G a2, k2⟩
  have b2 := D2.fn.binds rfl (ps := ["n"]) fun _ _ _ _ _ _ us hl => match us, hl with | [_], _ => rfl
  have D3 : C8.Def K mg "made_formula" sMadeFormula f3 _ := ⟨⟨oc3, od3, .none, kV3, dc3, pm3, an3, cd3, ct3, sl3, rfl, l3, c3⟩, PySem.W.mg_of X G a3, k3⟩
  have b3 := D3.fn.binds rfl (ps := ["n", "rows"]) fun _ _ _ _ _ _ us hl => match us, hl with | [_, _], _ => rfl
  have D4 : C8.Def K mg "forced" sForced f4 _ := ⟨⟨oc4, od4, .none, kV4, dc4, pm4, an4, cd4, ct4, sl4, rfl, l4, c4⟩, PySem.W.mg_of X G a4, k4⟩
  have b4 := D4.fn.binds rfl (ps := ["formula", "cube"]) fun _ _ _ _ _ _ us hl => match us, hl with | [_, _], _ => rfl
  have D5 : C8.Def K mg "free_variables" sFree f5 _ := ⟨⟨oc5, od5, .none, kV5, dc5, pm5, an5, cd5, ct5, sl5, rfl, l5, c5⟩, PySem.W.mg_of X G a5, k5⟩
  have b5 := D5.fn.binds rfl (ps := ["formula", "cube"]) fun _ _ _ _ _ _ us hl => match us, hl with | [_, _], _ => rfl
  have D6 : C8.Def K mg "negated" sNegated f6 _ := ⟨⟨oc6, od6, .none, kV6, dc6, pm6, an6, cd6, ct6, sl6, rfl, l6, c6⟩, PySem.W.mg_of X G a6, k6⟩
  have b6 := D6.fn.binds rfl (ps := ["clause"]) fun _ _ _ _ _ _ us hl => match us, hl with | [_], _ => rfl
  have D7 : C8.Def K mg "with_clauses" sWith f7 _ := ⟨⟨oc7, od7, .none, kV7, dc7, pm7, an7, cd7, ct7, sl7, rfl, l7, c7⟩, PySem.W.mg_of X G a7, k7⟩
  have b7 := D7.fn.binds rfl (ps := ["formula", "clauses"]) fun _ _ _ _ _ _ us hl => match us, hl with | [_, _], _ => rfl
  have D8 : C8.Def K mg "learn" sLearn f8 _ := ⟨⟨oc8, od8, .none, kV8, dc8, pm8, an8, cd8, ct8, sl8, rfl, l8, c8⟩, PySem.W.mg_of X G a8, k8⟩
  have b8 := D8.fn.binds rfl (ps := ["formula"]) fun _ _ _ _ _ _ us hl => match us, hl with | [_], _ => rfl
  have D9 : C8.Def K mg "_law_cell" sCell f9 _ := ⟨⟨oc9, od9, .none, kV9, dc9, pm9, an9, cd9, ct9, sl9, rfl, l9, c9⟩, PySem.W.mg_of X G a9, k9⟩
  have b9 := D9.fn.binds rfl (ps := ["_law_script", "_law_k"]) fun _ _ _ _ _ _ us hl => match us, hl with | [_, _], _ => rfl
  have D10 : C8.Def K mg "_law_draws" sDraws f10 _ := ⟨⟨oc10, od10, .none, kV10, dc10, pm10, an10, cd10, ct10, sl10, rfl, l10, c10⟩, PySem.W.mg_of X G a10, k10⟩
  have b10 := D10.fn.binds rfl (ps := ["_law_cell_here", "_law_count"]) fun _ _ _ _ _ _ us hl => match us, hl with | [_, _], _ => rfl
  have D11 : C8.Def K mg "_law_clause_of" sClauseOf f11 _ := ⟨⟨oc11, od11, .none, kV11, dc11, pm11, an11, cd11, ct11, sl11, rfl, l11, c11⟩, PySem.W.mg_of X G a11, k11⟩
  have b11 := D11.fn.binds rfl (ps := ["_law_literals"]) fun _ _ _ _ _ _ us hl => match us, hl with | [_], _ => rfl
  have D12 : C8.Def K mg "_law_rows" sRows f12 _ := ⟨⟨oc12, od12, .none, kV12, dc12, pm12, an12, cd12, ct12, sl12, rfl, l12, c12⟩, PySem.W.mg_of X G a12, k12⟩
  have b12 := D12.fn.binds rfl (ps := ["_law_draws_here", "_law_at", "_law_n", "_law_many", "_law_wide"]) fun _ _ _ _ _ _ us hl => match us, hl with | [_, _, _, _, _], _ => rfl
  have D13 : C8.Def K mg "_law_of_rows" sOfRows f13 _ := ⟨⟨oc13, od13, .none, kV13, dc13, pm13, an13, cd13, ct13, sl13, rfl, l13, c13⟩, PySem.W.mg_of X G a13, k13⟩
  have b13 := D13.fn.binds rfl (ps := ["_law_n", "_law_rows_here"]) fun _ _ _ _ _ _ us hl => match us, hl with | [_, _], _ => rfl
  have D14 : C8.Def K mg "_law_formula" sFormula f14 _ := ⟨⟨oc14, od14, .none, kV14, dc14, pm14, an14, cd14, ct14, sl14, rfl, l14, c14⟩, PySem.W.mg_of X G a14, k14⟩
  have b14 := D14.fn.binds rfl (ps := ["_law_cell_here", "_law_most", "_law_many"]) fun _ _ _ _ _ _ us hl => match us, hl with | [_, _, _], _ => rfl
  have D15 : C8.Def K mg "_law_bare" sBare f15 _ := ⟨⟨oc15, od15, .none, kV15, dc15, pm15, an15, cd15, ct15, sl15, rfl, l15, c15⟩, PySem.W.mg_of X G a15, k15⟩
  have b15 := D15.fn.binds rfl (ps := ["_law_cell_here", "_law_most", "_law_many"]) fun _ _ _ _ _ _ us hl => match us, hl with | [_, _, _], _ => rfl
  have D16 : C8.Def K mg "_law_assignments" sAssignments f16 _ := ⟨⟨oc16, od16, .none, kV16, dc16, pm16, an16, cd16, ct16, sl16, rfl, l16, c16⟩, PySem.W.mg_of X G a16, k16⟩
  have b16 := D16.fn.binds rfl (ps := ["_law_n"]) fun _ _ _ _ _ _ us hl => match us, hl with | [_], _ => rfl
  have D17 : C8.Def K mg "_law_meets" sMeets f17 _ := ⟨⟨oc17, od17, .none, kV17, dc17, pm17, an17, cd17, ct17, sl17, rfl, l17, c17⟩, PySem.W.mg_of X G a17, k17⟩
  have b17 := D17.fn.binds rfl (ps := ["_law_cube", "_law_clause"]) fun _ _ _ _ _ _ us hl => match us, hl with | [_, _], _ => rfl
  have D18 : C8.Def K mg "_law_models" sModels f18 _ := ⟨⟨oc18, od18, .none, kV18, dc18, pm18, an18, cd18, ct18, sl18, rfl, l18, c18⟩, PySem.W.mg_of X G a18, k18⟩
  have b18 := D18.fn.binds rfl (ps := ["_law_formula_here"]) fun _ _ _ _ _ _ us hl => match us, hl with | [_], _ => rfl
  have D19 : C8.Def K mg "_law_hopeless" sHopeless f19 _ := ⟨⟨oc19, od19, .none, kV19, dc19, pm19, an19, cd19, ct19, sl19, rfl, l19, c19⟩, PySem.W.mg_of X G a19, k19⟩
  have b19 := D19.fn.binds rfl (ps := ["_law_cell_here", "_law_most", "_law_many"]) fun _ _ _ _ _ _ us hl => match us, hl with | [_, _, _], _ => rfl
  have D20 : C8.Def K mg "_law_pushed" sPushed f20 _ := ⟨⟨oc20, od20, .none, kV20, dc20, pm20, an20, cd20, ct20, sl20, rfl, l20, c20⟩, PySem.W.mg_of X G a20, k20⟩
  have b20 := D20.fn.binds rfl (ps := ["_law_formula_here", "_law_more", "_law_cube"]) fun _ _ _ _ _ _ us hl => match us, hl with | [_, _, _], _ => rfl
  have D21 : C8.Def K mg "_law_opposite" sOpposite f21 _ := ⟨⟨oc21, od21, .none, kV21, dc21, pm21, an21, cd21, ct21, sl21, rfl, l21, c21⟩, PySem.W.mg_of X G a21, k21⟩
  have b21 := D21.fn.binds rfl (ps := ["_law_clause"]) fun _ _ _ _ _ _ us hl => match us, hl with | [_], _ => rfl
  have D22 : C8.Def K mg "_law_at_once" sAtOnce f22 _ := ⟨⟨oc22, od22, .none, kV22, dc22, pm22, an22, cd22, ct22, sl22, rfl, l22, c22⟩, PySem.W.mg_of X G a22, k22⟩
  have b22 := D22.fn.binds rfl (ps := ["_law_formula_here", "_law_more", "_law_clause"]) fun _ _ _ _ _ _ us hl => match us, hl with | [_, _, _], _ => rfl
  have D23 : C8.Def K mg "_law_good_log" sGoodLog f23 _ := ⟨⟨oc23, od23, .none, kV23, dc23, pm23, an23, cd23, ct23, sl23, rfl, l23, c23⟩, PySem.W.mg_of X G a23, k23⟩
  have b23 := D23.fn.binds rfl (ps := ["_law_formula_here", "_law_log"]) fun _ _ _ _ _ _ us hl => match us, hl with | [_, _], _ => rfl
  have D24 : C8.Def K mg "law" sLaw fa _ := ⟨⟨oc24, od24, .none, kV24, dc24, pm24, an24, cd24, ct24, sl24, rfl, l24, c24⟩, PySem.W.mg_of X G a24, k24⟩
  have D31 : C8.Fun K "__init__" "Learner.__init__" sInit f31 _ := ⟨oc31, od31, .none, kV31, dc31, pm31, an31, cd31, ct31, sl31, rfl, l31, c31⟩
  have b31 := D31.binds rfl (ps := ["self", "formula"]) fun _ _ _ _ _ _ us hl => match us, hl with | [_, _], _ => rfl
  have D32 : C8.Fun K "learned" "Learner.learned" sLearned f32 _ := ⟨oc32, od32, .none, kV32, dc32, pm32, an32, cd32, ct32, sl32, rfl, l32, c32⟩
  have b32 := D32.binds rfl (ps := ["self"]) fun _ _ _ _ _ _ us hl => match us, hl with | [_], _ => rfl
  have D33 : C8.Fun K "_known" "Learner._known" sKnown f33 _ := ⟨oc33, od33, .none, kV33, dc33, pm33, an33, cd33, ct33, sl33, rfl, l33, c33⟩
  have b33 := D33.binds rfl (ps := ["self", "literals"]) fun _ _ _ _ _ _ us hl => match us, hl with | [_, _], _ => rfl
  have D34 : C8.Fun K "knows" "Learner.knows" sKnows f34 _ := ⟨oc34, od34, .none, kV34, dc34, pm34, an34, cd34, ct34, sl34, rfl, l34, c34⟩
  have b34 := D34.binds rfl (ps := ["self"]) fun _ _ _ _ _ _ us hl => match us, hl with | [_], _ => rfl
  have D35 : C8.Fun K "finished" "Learner.finished" sFinished f35 _ := ⟨oc35, od35, .none, kV35, dc35, pm35, an35, cd35, ct35, sl35, rfl, l35, c35⟩
  have b35 := D35.binds rfl (ps := ["self"]) fun _ _ _ _ _ _ us hl => match us, hl with | [_], _ => rfl
  have D36 : C8.Fun K "_needed" "Learner._needed" sNeeded f36 _ := ⟨oc36, od36, .none, kV36, dc36, pm36, an36, cd36, ct36, sl36, rfl, l36, c36⟩
  have b36 := D36.binds rfl (ps := ["self"]) fun _ _ _ _ _ _ us hl => match us, hl with | [_], _ => rfl
  have D37 : C8.Fun K "assume" "Learner.assume" sAssume f37 _ := ⟨oc37, od37, .none, kV37, dc37, pm37, an37, cd37, ct37, sl37, rfl, l37, c37⟩
  have b37 := D37.binds rfl (ps := ["self", "literal"]) fun _ _ _ _ _ _ us hl => match us, hl with | [_, _], _ => rfl
  refine ⟨PySem.W.fnOf "law" "law" (C8.fnArgs sLaw) (C8.fnBody sLaw) (C8.fnScope sLaw) .none kV24 dc24 pm24 an24 cd24 ct24, fun s v => .of_eq rfl, fun base _ _ => ?_⟩
  have c1 := cal_made_clause (P := l.prog) (w := w) (base := base) T D1 b1
  have c2 := cal_check_count (P := l.prog) (w := w) (base := base) T D2 b2
  have c3 := cal_made_formula T D3 b3 c2 c1
  have c4 := cal_forced (P := l.prog) (w := w) (base := base) T D4 b4
  have c5 := cal_free (P := l.prog) (w := w) (base := base) T D5 b5
  have c6 := cal_negated (P := l.prog) (w := w) (base := base) T D6 b6
  have c7 := cal_with T D7 b7 c3
  have mk := mak_learner (P := l.prog) (w := w) (base := base) TC ⟨mkC, a31, i31, kcC⟩ mC D31 b31
  have m2 := met_learned (P := l.prog) (w := w) (base := base) T TC ⟨a32, i32, k32⟩ D32 b32
  have m3 := met_known T TC ⟨a33, i33, k33⟩ D33 b33 c4 c7
  have m4 := met_knows TC ⟨a34, i34, k34⟩ D34 b34 m3
  have m5 := met_finished TC ⟨a35, i35, k35⟩ D35 b35 m3
  have m6 := met_needed T TC ⟨a36, i36, k36⟩ D36 b36 m3
  have m7 := met_assume T TC ⟨a37, i37, k37⟩ D37 b37 m5 m4 m6 c6
  have c8 := cal_learn T D8 b8 mk m5 m4 c5 m7 m2
  have c9 := cal_cell (P := l.prog) (w := w) (base := base) T D9 b9
  have c10 := cal_draws (P := l.prog) (w := w) (base := base) T D10 b10
  have c11 := cal_clause_of (P := l.prog) (w := w) (base := base) T D11 b11
  have c12 := cal_rows (P := l.prog) (w := w) (base := base) T D12 b12
  have c13 := cal_of_rows T D13 b13 c11
  have c14 := cal_formula T D14 b14 c10 c12 c13
  have c15 := cal_bare T D15 b15 c10 c14
  have c16 := cal_assignments (P := l.prog) (w := w) (base := base) T D16 b16
  have c17 := cal_meets (P := l.prog) (w := w) (base := base) T D17 b17
  have c18 := cal_models T D18 b18 c16 c17
  have c19 := cal_hopeless T D19 b19 c14 c10 c18 c13
  have c20 := cal_pushed (P := l.prog) (w := w) (base := base) T D20 b20
  have c21 := cal_opposite (P := l.prog) (w := w) (base := base) T D21 b21
  have c22 := cal_at_once D22 b22 c20 c21
  have c23 := cal_good_log T D23 b23 c22
  exact ok_law T D24.fn c9 c15 c19 c18 c8 c23 mk c10 m7 m5 m2 c17
theorem walk {l : PySem.W.OpenLaw} {q : Program} {loose : List Str} {XP : (Str → Option Value) → Heap → Prop} {YP : World → Heap → Prop} {d : DefRec} {K : Params → PySem.W.Frag} (hn : l.most = some 63) (hdf : d.params.defaults = [])
    (hY : ∀ (w : World) (h : Heap), YP w h → (K w.params).In h)
    (F : ∀ (w : World) (mg : Str → Option Value) (fa : Addr) (h : Heap), (K w.params).In h → h.Ns mainGlobals mg → mg d.name = some (.ref fa) →
      ∃ fd : FuncData, (∀ (s : Shared) (u : Value), BindsTo s fd ⟨[u], []⟩ [("_law_script", u)]) ∧ ∀ base : Heap, (K w.params).In base → base.Ns mainGlobals mg → FnOk l.prog w (K w.params) mg base C8.CX0 8 fa fd ["_law_script"] (spLaw (K w.params))) :
    PySem.W.WalkO q loose XP YP l.row.toRowW d [] (fun f vs => PySem.call f vs) :=
  L2.walk_ofB (n := 63) (k := 8) (x := "_law_script") (CX := fun _ => C8.CX0) (sp := fun w => spLaw (K w.params)) hn (by decide) hdf ⟨rfl, by decide, by decide⟩ hY F (fun _ _ a ns hl hb _ hS => ⟨a, ns, rfl, hS, hl, hb, fun _ _ => rfl⟩) fun _ _ _ _ _ z => z
end Rb
/-! ## D18 -/
open PySem PySem.W PyProof.Rows
set_option maxRecDepth 100000 in
set_option maxHeartbeats 0 in
theorem PySem.Challenge.cw_rebut_k78_whole_learning_holds : PySem.Challenge.rw_rebut_k78_whole_learning.Holds := by
  w_on; o_law; k_head; (case hw => w_witness2)
  k_fill
  refine Rb.walk (l := PySem.Challenge.rw_rebut_k78_whole_learning) rfl rfl (fun w h Y => PySem.W.kIn_of Y) ?F
  case F =>
    intro w mg fa h KX G hmg
    refine' Rb.all_mk KX G hmg ?a1 ?l1 ?c1 ?k1 ?a2 ?l2 ?c2 ?k2 ?a3 ?l3 ?c3 ?k3 ?a4 ?l4 ?c4 ?k4 ?a5 ?l5 ?c5 ?k5 ?a6 ?l6 ?c6 ?k6 ?a7 ?l7 ?c7 ?k7 ?a8 ?l8 ?c8 ?k8 ?a9 ?l9 ?c9 ?k9 ?a10 ?l10 ?c10 ?k10 ?a11 ?l11 ?c11 ?k11 ?a12 ?l12 ?c12 ?k12 ?a13 ?l13 ?c13 ?k13 ?a14 ?l14 ?c14 ?k14 ?a15 ?l15 ?c15 ?k15 ?a16 ?l16 ?c16 ?k16 ?a17 ?l17 ?c17 ?k17 ?a18 ?l18 ?c18 ?k18 ?a19 ?l19 ?c19 ?k19 ?a20 ?l20 ?c20 ?k20 ?a21 ?l21 ?c21 ?k21 ?a22 ?l22 ?c22 ?k22 ?a23 ?l23 ?c23 ?k23 ?a24 ?l24 ?c24 ?k24 ?aC ?a31 ?i31 ?l31 ?c31 ?k31 ?a32 ?i32 ?l32 ?c32 ?k32 ?a33 ?i33 ?l33 ?c33 ?k33 ?a34 ?i34 ?l34 ?c34 ?k34 ?a35 ?i35 ?l35 ?c35 ?k35 ?a36 ?i36 ?l36 ?c36 ?k36 ?a37 ?i37 ?l37 ?c37 ?k37 ?pgC ?hdC ?poC ?saC ?mkC ?kcC ?nF ?nL ?nA ?z0 ?z1 ?z2 ?z3 ?z4 ?z5 ?z6 ?z7 ?z8 ?z9 ?aM
    (case a1 => k_is)
    (case l1 => k_is)
    (case c1 => k_is)
    (case k1 => k_is)
    (case a2 => k_is)
    (case l2 => k_is)
    (case c2 => k_is)
    (case k2 => k_is)
    (case a3 => k_is)
    (case l3 => k_is)
    (case c3 => k_is)
    (case k3 => k_is)
    (case a4 => k_is)
    (case l4 => k_is)
    (case c4 => k_is)
    (case k4 => k_is)
    (case a5 => k_is)
    (case l5 => k_is)
    (case c5 => k_is)
    (case k5 => k_is)
    (case a6 => k_is)
    (case l6 => k_is)
    (case c6 => k_is)
    (case k6 => k_is)
    (case a7 => k_is)
    (case l7 => k_is)
    (case c7 => k_is)
    (case k7 => k_is)
    (case a8 => k_is)
    (case l8 => k_is)
    (case c8 => k_is)
    (case k8 => k_is)
    (case a9 => k_is)
    (case l9 => k_is)
    (case c9 => k_is)
    (case k9 => k_is)
    (case a10 => k_is)
    (case l10 => k_is)
    (case c10 => k_is)
    (case k10 => k_is)
    (case a11 => k_is)
    (case l11 => k_is)
    (case c11 => k_is)
    (case k11 => k_is)
    (case a12 => k_is)
    (case l12 => k_is)
    (case c12 => k_is)
    (case k12 => k_is)
    (case a13 => k_is)
    (case l13 => k_is)
    (case c13 => k_is)
    (case k13 => k_is)
    (case a14 => k_is)
    (case l14 => k_is)
    (case c14 => k_is)
    (case k14 => k_is)
    (case a15 => k_is)
    (case l15 => k_is)
    (case c15 => k_is)
    (case k15 => k_is)
    (case a16 => k_is)
    (case l16 => k_is)
    (case c16 => k_is)
    (case k16 => k_is)
    (case a17 => k_is)
    (case l17 => k_is)
    (case c17 => k_is)
    (case k17 => k_is)
    (case a18 => k_is)
    (case l18 => k_is)
    (case c18 => k_is)
    (case k18 => k_is)
    (case a19 => k_is)
    (case l19 => k_is)
    (case c19 => k_is)
    (case k19 => k_is)
    (case a20 => k_is)
    (case l20 => k_is)
    (case c20 => k_is)
    (case k20 => k_is)
    (case a21 => k_is)
    (case l21 => k_is)
    (case c21 => k_is)
    (case k21 => k_is)
    (case a22 => k_is)
    (case l22 => k_is)
    (case c22 => k_is)
    (case k22 => k_is)
    (case a23 => k_is)
    (case l23 => k_is)
    (case c23 => k_is)
    (case k23 => k_is)
    (case a24 => k_is)
    (case l24 => k_is)
    (case c24 => k_is)
    (case k24 => k_is)
    (case aC => k_is)
    (case a31 => k_is)
    (case i31 => k_is)
    (case l31 => k_is)
    (case c31 => k_is)
    (case k31 => k_is)
    (case a32 => k_is)
    (case i32 => k_is)
    (case l32 => k_is)
    (case c32 => k_is)
    (case k32 => k_is)
    (case a33 => k_is)
    (case i33 => k_is)
    (case l33 => k_is)
    (case c33 => k_is)
    (case k33 => k_is)
    (case a34 => k_is)
    (case i34 => k_is)
    (case l34 => k_is)
    (case c34 => k_is)
    (case k34 => k_is)
    (case a35 => k_is)
    (case i35 => k_is)
    (case l35 => k_is)
    (case c35 => k_is)
    (case k35 => k_is)
    (case a36 => k_is)
    (case i36 => k_is)
    (case l36 => k_is)
    (case c36 => k_is)
    (case k36 => k_is)
    (case a37 => k_is)
    (case i37 => k_is)
    (case l37 => k_is)
    (case c37 => k_is)
    (case k37 => k_is)
    (case pgC => k_is)
    (case hdC => k_is)
    (case poC => k_is)
    (case saC => k_is)
    (case mkC => k_is)
    (case kcC => k_is)
    (case nF => k_is)
    (case nL => k_is)
    (case nA => k_is)
    (case z0 => k_is)
    (case z1 => k_is)
    (case z2 => k_is)
    (case z3 => k_is)
    (case z4 => k_is)
    (case z5 => k_is)
    (case z6 => k_is)
    (case z7 => k_is)
    (case z8 => k_is)
    (case z9 => k_is)
    (case aM => k_is)
