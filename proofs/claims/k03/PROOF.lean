import PyProof.Rows.All
import Wide.All
import OpenK.AllK
import Wide.FinOn
import HandS.ForMost
import HandS.Defaults
import HandS.HeadEnd
import HandS.HeadHook4
import HandS.HeadNt
import HandS.HeadWalk
import HandS.Walk
import PyProof.Draws
import KE.GoesMore
import KE.SortUse
import KE.SortData
import HandS.Lambda
import HandS.SortKw
import HandS.DictComp
import KE.KDictCopyH
import HandS.Codes
import HandS.IsInst
import HandS.Deep
import HandS.Style
import HandS.TupAny
import HandS.More
import HandS.Zip
import KE.KStateDown
import Lean
import HandS.Head0
import HandS.Head1
import HandS.Head2
import PySem.Challenge.RW_quillrun_k03_whole_no_deed_moves_a_chara
set_option linter.all false
/-! the plain law: rows of marks, in plain Lean -/
namespace Q3
abbrev Mark := Int × Int
/-- the order of marks -/
def mlt (a b : Mark) : Bool := decide (a.1 < b.1) || (decide (a.1 = b.1) && decide (a.2 < b.2))
theorem mlt_iff {a b : Mark} : mlt a b = true ↔ a.1 < b.1 ∨ (a.1 = b.1 ∧ a.2 < b.2) := by simp [mlt]
theorem mlt_irrefl (a : Mark) : mlt a a = false := by
  cases h : mlt a a with
  | false => rfl
  | true => rw [mlt_iff] at h; omega
theorem mlt_trans {a b c : Mark} (h : mlt a b = true) (k : mlt b c = true) : mlt a c = true := by
  rw [mlt_iff] at *; omega
theorem mlt_asymm {a b : Mark} (h : mlt a b = true) : mlt b a = false := by
  cases k : mlt b a with
  | false => rfl
  | true => rw [mlt_iff] at *; omega
theorem mlt_ne {a b : Mark} (h : mlt a b = true) : a ≠ b := fun e => by
  subst e; rw [mlt_irrefl] at h; cases h
theorem mlt_total {a b : Mark} (h : a ≠ b) : mlt a b = true ∨ mlt b a = true := by
  rw [mlt_iff, mlt_iff]
  have : a.1 ≠ b.1 ∨ a.2 ≠ b.2 := by
    by_cases e : a.1 = b.1
    · right; intro e2; exact h (Prod.ext e e2)
    · exact .inl e
  omega

/-- a character of a row: its mark, the mark behind which it stands, its code, whether its change is in force -/
structure Ent where
  mark : Mark
  beh : Option Mark
  code : Nat
  inf : Bool

/-- x behind b -/
def insAfter (L : List Mark) (b x : Mark) : List Mark := L.take (L.idxOf b + 1) ++ [x] ++ L.drop (L.idxOf b + 1)
def insAt (L : List Mark) (x : Mark) : Option Mark → List Mark
  | none => x :: L
  | some b => insAfter L b x
def stepE (L : List Mark) (e : Ent) : List Mark := insAt L e.mark e.beh
def build (S : List Ent) : List Mark := S.foldl stepE []
theorem build_snoc (S : List Ent) (e : Ent) : build (S ++ [e]) = stepE (build S) e := by
  unfold build; rw [List.foldl_append]; rfl
theorem insAfter_split {A C : List Mark} {b x : Mark} (h : b ∉ A) : insAfter (A ++ b :: C) b x = A ++ b :: x :: C := by
  have e : (A ++ b :: C).idxOf b = A.length := by
    rw [List.idxOf_append, if_neg h]
    simp
  unfold insAfter
  rw [e]
  have e1 : (A ++ b :: C).take (A.length + 1) = A ++ [b] := by
    rw [List.take_append, List.take_of_length_le (Nat.le_succ _)]; simp
  have e2 : (A ++ b :: C).drop (A.length + 1) = C := by
    rw [List.drop_append]; simp
  rw [e1, e2]; simp
theorem split_first {L : List Mark} {b : Mark} (h : b ∈ L) : ∃ A C, L = A ++ b :: C ∧ b ∉ A := by
  induction L with
  | nil => cases h
  | cons y r ih =>
    by_cases e : y = b
    · exact ⟨[], r, by rw [e]; rfl, by simp⟩
    · have hb : b ∈ r := by
        cases h with
        | head => exact absurd rfl e
        | tail _ h => exact h
      obtain ⟨A, C, e1, e2⟩ := ih hb
      exact ⟨y :: A, C, by rw [e1]; rfl, by simp [Ne.symm e, e2]⟩

/-- strictly in order, each behind nothing or behind an earlier one -/
structure Good (S : List Ent) : Prop where
  ord : S.Pairwise fun a b => mlt a.mark b.mark = true
  beh : ∀ e ∈ S, ∀ b, e.beh = some b → mlt b e.mark = true ∧ b ∈ S.map (·.mark)
theorem Good.pre {S : List Ent} (g : Good S) {P : List Ent} {e : Ent} {R : List Ent} (h : S = P ++ e :: R) : ∀ b, e.beh = some b → b ∈ P.map (·.mark) := by
  intro b hb
  obtain ⟨h1, h2⟩ := g.beh e (by rw [h]; simp) b hb
  rw [h] at h2
  rw [List.map_append, List.map_cons, List.mem_append] at h2
  rcases h2 with h2 | h2
  · exact h2
  · have ord := g.ord
    rw [h, List.pairwise_append] at ord
    have o2 := (List.pairwise_cons.mp ord.2.1).1
    cases h2 with
    | head => rw [mlt_irrefl] at h1; cases h1
    | tail _ h2 =>
      obtain ⟨x, hx, ex⟩ := List.mem_map.mp h2
      have := o2 x hx
      rw [ex] at this
      rw [mlt_asymm this] at h1; cases h1
theorem Good.nodup {S : List Ent} (g : Good S) : (S.map (·.mark)).Nodup := by
  rw [List.Nodup, List.pairwise_map]
  exact g.ord.imp fun h => mlt_ne h
theorem mem_stepE {L : List Mark} {e : Ent} {x : Mark} : x ∈ stepE L e ↔ x = e.mark ∨ x ∈ L := by
  unfold stepE insAt
  cases e.beh with
  | none => simp
  | some b =>
    unfold insAfter
    constructor
    · intro h
      rw [List.mem_append, List.mem_append] at h
      rcases h with (h | h) | h
      · exact .inr (List.mem_of_mem_take h)
      · exact .inl (by simpa using h)
      · exact .inr (List.mem_of_mem_drop h)
    · intro h
      rw [List.mem_append, List.mem_append]
      rcases h with h | h
      · exact .inl (.inr (by simp [h]))
      · rw [← List.take_append_drop (L.idxOf b + 1) L, List.mem_append] at h
        rcases h with h | h
        · exact .inl (.inl h)
        · exact .inr h
theorem mem_build {x : Mark} : ∀ S : List Ent, x ∈ build S ↔ x ∈ S.map (·.mark) := by
  have key : ∀ (S : List Ent) (L : List Mark), x ∈ S.foldl stepE L ↔ x ∈ S.map (·.mark) ∨ x ∈ L := by
    intro S
    induction S with
    | nil => intro L; simp
    | cons e r ih =>
      intro L
      rw [List.foldl_cons, ih, mem_stepE]
      simp only [List.map_cons, List.mem_cons]
      constructor
      · rintro (h | h | h)
        · exact .inl (.inr h)
        · exact .inl (.inl h)
        · exact .inr h
      · rintro ((h | h) | h)
        · exact .inr (.inl h)
        · exact .inl h
        · exact .inr (.inr h)
  intro S
  unfold build
  rw [key]; simp
theorem nodup_stepE {L : List Mark} {e : Ent} (h : L.Nodup) (hn : e.mark ∉ L) : (stepE L e).Nodup := by
  unfold stepE insAt
  cases e.beh with
  | none => exact List.nodup_cons.mpr ⟨hn, h⟩
  | some b =>
    show (insAfter L b e.mark).Nodup
    unfold insAfter
    rw [← List.take_append_drop (L.idxOf b + 1) L] at h hn
    generalize L.take (L.idxOf b + 1) = A at *
    generalize L.drop (L.idxOf b + 1) = B at *
    rw [List.append_assoc, List.singleton_append]
    rw [List.nodup_append] at h ⊢
    rw [List.mem_append, not_or] at hn
    refine ⟨h.1, List.nodup_cons.mpr ⟨hn.2, h.2.1⟩, ?_⟩
    intro a ha c hc
    cases hc with
    | head => intro e; rw [e] at ha; exact hn.1 ha
    | tail _ hc => exact h.2.2 a ha c hc
theorem nodup_build {S : List Ent} (h : (S.map (·.mark)).Nodup) : (build S).Nodup := by
  have key : ∀ (R P : List Ent), ((P ++ R).map (·.mark)).Nodup → (build P).Nodup → (build (P ++ R)).Nodup := by
    intro R
    induction R with
    | nil => intro P _ h; simpa using h
    | cons e r ih =>
      intro P h1 h2
      have e1 : P ++ e :: r = (P ++ [e]) ++ r := by simp
      rw [e1] at h1 ⊢
      refine ih _ h1 ?_
      rw [build_snoc]
      refine nodup_stepE h2 ?_
      rw [mem_build]
      rw [List.map_append, List.map_append, List.nodup_append] at h1
      intro hm
      have := (List.nodup_append.mp h1.1).2.2 _ hm e.mark (by simp)
      exact this rfl
  have := key S [] (by simpa using h) (by simp [build])
  simpa using this

/-- THE FILTER: keeping a set of entries that is closed under «behind» -/
theorem filter_step {L : List Mark} {e : Ent} {p : Mark → Bool} (hL : ∀ b, e.beh = some b → b ∈ L) (hp : p e.mark = true → ∀ b, e.beh = some b → p b = true) :
    (stepE L e).filter p = if p e.mark = true then stepE (L.filter p) e else L.filter p := by
  unfold stepE insAt
  cases hb : e.beh with
  | none =>
    show (e.mark :: L).filter p = _
    rw [List.filter_cons]
  | some b =>
    obtain ⟨A, C, hAC, hA⟩ := split_first (hL b hb)
    show (insAfter L b e.mark).filter p = if p e.mark = true then insAfter (L.filter p) b e.mark else L.filter p
    rw [hAC, insAfter_split hA]
    by_cases hx : p e.mark = true
    · rw [if_pos hx]
      have hpb := hp hx b hb
      rw [List.filter_append, List.filter_append, List.filter_cons, if_pos hpb, List.filter_cons, if_pos hx, List.filter_cons, if_pos hpb]
      rw [insAfter_split]
      intro h
      exact hA (List.mem_filter.mp h).1
    · rw [if_neg hx]
      rw [List.filter_append, List.filter_append, List.filter_cons, List.filter_cons, List.filter_cons, if_neg hx]
theorem filter_build {S : List Ent} (g : Good S) {p : Mark → Bool} (hp : ∀ e ∈ S, p e.mark = true → ∀ b, e.beh = some b → p b = true) :
    (build S).filter p = build (S.filter fun e => p e.mark) := by
  have key : ∀ (R P : List Ent), S = P ++ R → (build P).filter p = build (P.filter fun e => p e.mark) → (build S).filter p = build (S.filter fun e => p e.mark) := by
    intro R
    induction R with
    | nil => intro P h1 h2; rw [h1]; simpa using h2
    | cons e r ih =>
      intro P h1 h2
      have e1 : S = (P ++ [e]) ++ r := by rw [h1]; simp
      refine ih _ e1 ?_
      rw [build_snoc, filter_step (fun b hb => by rw [mem_build]; exact g.pre h1 b hb) (hp e (by rw [h1]; simp)), h2, List.filter_append]
      by_cases hx : p e.mark = true
      · rw [if_pos hx, List.filter_cons, if_pos hx, List.filter_nil, build_snoc]
      · rw [if_neg hx, List.filter_cons, if_neg hx, List.filter_nil, List.append_nil]
  exact key S [] rfl (by simp [build])

/-- two lists in strict order with the same members are one -/
theorem sorted_eq {α : Type} {lt : α → α → Prop} (irr : ∀ a, ¬ lt a a) (asy : ∀ a b, lt a b → ¬ lt b a) : ∀ {A B : List α}, A.Pairwise lt → B.Pairwise lt → (∀ x, x ∈ A ↔ x ∈ B) → A = B := by
  intro A
  induction A with
  | nil =>
    intro B _ _ h
    cases B with
    | nil => rfl
    | cons b r => exact absurd ((h b).mpr (by simp)) (by simp)
  | cons a r ih =>
    intro B hA hB h
    cases B with
    | nil => exact absurd ((h a).mp (by simp)) (by simp)
    | cons b t =>
      have hA' := List.pairwise_cons.mp hA
      have hB' := List.pairwise_cons.mp hB
      have e : a = b := by
        have h1 := (h a).mp (by simp)
        have h2 := (h b).mpr (by simp)
        rcases List.mem_cons.mp h1 with e | h1
        · exact e
        · rcases List.mem_cons.mp h2 with e | h2
          · exact e.symm
          · exact absurd (hA'.1 b h2) (asy _ _ (hB'.1 a h1))
      subst e
      congr 1
      refine ih hA'.2 hB'.2 fun x => ?_
      have hx := h x
      constructor
      · intro q
        rcases List.mem_cons.mp (hx.mp (List.mem_cons_of_mem _ q)) with e | z
        · subst e; exact absurd (hA'.1 _ q) (irr _)
        · exact z
      · intro q
        rcases List.mem_cons.mp (hx.mpr (List.mem_cons_of_mem _ q)) with e | z
        · subst e; exact absurd (hB'.1 _ q) (irr _)
        · exact z
theorem good_inj {S : List Ent} (g : Good S) {a b : Ent} (ha : a ∈ S) (hb : b ∈ S) (e : a.mark = b.mark) : a = b := by
  obtain ⟨i, hi, ei⟩ := List.mem_iff_getElem.mp ha
  obtain ⟨j, hj, ej⟩ := List.mem_iff_getElem.mp hb
  have o := List.pairwise_iff_getElem.mp g.ord
  rcases Nat.lt_trichotomy i j with h | h | h
  · have := o i j hi hj h
    rw [ei, ej, e, mlt_irrefl] at this; cases this
  · subst h; rw [← ei, ← ej]
  · have := o j i hj hi h
    rw [ei, ej, e, mlt_irrefl] at this; cases this
/-- THE LAW's second sentence: the marks of a part stand in the whole as in the part -/
theorem part_order {S1 S2 : List Ent} (g1 : Good S1) (g2 : Good S2) (sub : ∀ e ∈ S1, ∃ e' ∈ S2, e'.mark = e.mark ∧ e'.beh = e.beh) : (build S2).filter (fun m => decide (m ∈ build S1)) = build S1 := by
  have hc : ∀ e ∈ S2, decide (e.mark ∈ build S1) = true → ∃ e1 ∈ S1, e1.mark = e.mark ∧ e1.beh = e.beh := by
    intro e he hm
    have hm := of_decide_eq_true hm
    rw [mem_build] at hm
    obtain ⟨e1, h1, h2⟩ := List.mem_map.mp hm
    obtain ⟨e2, h3, h4, h5⟩ := sub e1 h1
    have : e2 = e := good_inj g2 h3 he (h4.trans h2)
    subst this
    exact ⟨e1, h1, h2, h5.symm⟩
  rw [filter_build g2 (p := fun m => decide (m ∈ build S1))]
  · -- both are in order and have the same marks
    have mk : ∀ S : List Ent, build S = (S.map fun e => (e.mark, e.beh)).foldl (fun L (q : Mark × Option Mark) => insAt L q.1 q.2) [] := by
      intro S
      unfold build
      rw [List.foldl_map]
      rfl
    rw [mk (S2.filter _)]
    refine Eq.trans ?_ (mk S1).symm
    congr 1
    refine sorted_eq (lt := fun (a b : Mark × Option Mark) => mlt a.1 b.1 = true) (fun a => by rw [mlt_irrefl]; simp) (fun a b h => by rw [mlt_asymm h]; simp) ?_ ?_ ?_
    · rw [List.pairwise_map]; exact g2.ord.filter _
    · rw [List.pairwise_map]; exact g1.ord
    · intro x
      constructor
      · intro h
        obtain ⟨e, he, ex⟩ := List.mem_map.mp h
        obtain ⟨h1, h2⟩ := List.mem_filter.mp he
        obtain ⟨e1, q1, q2, q3⟩ := hc e h1 h2
        exact List.mem_map.mpr ⟨e1, q1, by rw [← ex, q2, q3]⟩
      · intro h
        obtain ⟨e1, h1, ex⟩ := List.mem_map.mp h
        obtain ⟨e2, h3, h4, h5⟩ := sub e1 h1
        refine List.mem_map.mpr ⟨e2, List.mem_filter.mpr ⟨h3, ?_⟩, by rw [← ex, h4, h5]⟩
        show decide (e2.mark ∈ build S1) = true
        refine decide_eq_true ?_
        rw [mem_build, h4]
        exact List.mem_map.mpr ⟨e1, h1, rfl⟩
  · intro e he hm b hb
    obtain ⟨e1, h1, h2, h3⟩ := hc e he hm
    refine decide_eq_true ?_
    rw [mem_build]
    exact (g1.beh e1 h1 b (h3.trans hb)).2
/-- where an entry stands: behind its own, with greater ones between -/
theorem stands {S : List Ent} (g : Good S) {e : Ent} (he : e ∈ S) :
    (e.beh = none → ∃ B C, build S = B ++ e.mark :: C ∧ ∀ x ∈ B, mlt x e.mark = false) ∧
    (∀ b, e.beh = some b → ∃ A B C, build S = A ++ b :: (B ++ e.mark :: C) ∧ ∀ x ∈ B, mlt x e.mark = false) := by
  obtain ⟨P, R, hPR⟩ := List.append_of_mem he
  have ord := g.ord
  rw [hPR, List.pairwise_append] at ord
  have hP : ∀ a ∈ P, mlt a.mark e.mark = true := fun a ha => ord.2.2 a ha e (by simp)
  have hR : ∀ a ∈ R, mlt e.mark a.mark = true := fun a ha => (List.pairwise_cons.mp ord.2.1).1 a ha
  have fil : S.filter (fun a => !mlt e.mark a.mark) = P ++ [e] := by
    rw [hPR, List.filter_append, List.filter_cons, if_pos (by rw [mlt_irrefl]; rfl)]
    have h1 : P.filter (fun a => !mlt e.mark a.mark) = P := List.filter_eq_self.mpr fun a ha => by rw [mlt_asymm (hP a ha)]; rfl
    have h2 : R.filter (fun a => !mlt e.mark a.mark) = [] := List.filter_eq_nil_iff.mpr fun a ha => by rw [hR a ha]; simp
    rw [h1, h2]
  have hf : (build S).filter (fun m => !mlt e.mark m) = stepE (build P) e := by
    rw [filter_build g (p := fun m => !mlt e.mark m), fil, build_snoc]
    intro a ha h1 b hb
    have hlt := (g.beh a ha b hb).1
    cases q : mlt e.mark b with
    | false => rfl
    | true =>
      rw [mlt_trans q hlt] at h1
      cases h1
  have tail : ∀ {B : List Mark}, (∀ x ∈ B, ¬ (!mlt e.mark x) = true) → ∀ x ∈ B, mlt x e.mark = false := fun h x hx => by
    have z := h x hx
    cases q : mlt e.mark x with
    | true => exact mlt_asymm q
    | false => rw [q] at z; exact absurd rfl z
  constructor
  · intro hb
    unfold stepE insAt at hf
    rw [hb] at hf
    obtain ⟨B, C, e1, e2, e3, e4⟩ := List.filter_eq_cons_iff.mp hf
    exact ⟨B, C, e1, tail e2⟩
  · intro b hb
    obtain ⟨A, C, hAC, hA⟩ := split_first (b := b) (L := build P) (by rw [mem_build]; exact g.pre hPR b hb)
    unfold stepE insAt at hf
    rw [hb] at hf
    have hf : (build S).filter (fun m => !mlt e.mark m) = insAfter (build P) b e.mark := hf
    rw [hAC, insAfter_split hA] at hf
    obtain ⟨L1, L2, e1, e2, e3⟩ := List.filter_eq_append_iff.mp hf
    obtain ⟨X, L3, f1, f2, f3, f4⟩ := List.filter_eq_cons_iff.mp e3
    obtain ⟨B, D, k1, k2, k3, k4⟩ := List.filter_eq_cons_iff.mp f4
    exact ⟨L1 ++ X, B, D, by rw [e1, f1, k1]; simp, tail k2⟩
theorem take_split {α : Type} : ∀ {l : List α} {i : Nat} {a : α}, l[i]? = some a → l = l.take i ++ a :: l.drop (i + 1)
  | [], _, _, h => by simp at h
  | b :: r, 0, a, h => by
    have e : b = a := by simpa using h
    subst e
    rfl
  | b :: r, i + 1, a, h => by
    have z := take_split (l := r) (i := i) (a := a) (by simpa using h)
    show b :: r = b :: (r.take i ++ a :: r.drop (i + 1))
    rw [← z]
theorem stepE_len (L : List Mark) (e : Ent) : (stepE L e).length = L.length + 1 := by
  unfold stepE insAt
  cases e.beh with
  | none => rfl
  | some b =>
    show (insAfter L b e.mark).length = _
    unfold insAfter
    rw [List.length_append, List.length_append, List.length_take, List.length_drop, List.length_singleton]
    omega
theorem build_len (S : List Ent) : (build S).length = S.length := by
  have key : ∀ (S : List Ent) (L : List Mark), (S.foldl stepE L).length = L.length + S.length := by
    intro S
    induction S with
    | nil => intro L; rfl
    | cons e r ih =>
      intro L
      rw [List.foldl_cons, ih, stepE_len, List.length_cons]
      omega
  have := key S []
  unfold build
  simpa using this
end Q3

set_option Elab.async false
set_option linter.all false
set_option maxRecDepth 100000
set_option maxHeartbeats 4000000
/-! the text by places -/
namespace Q3
open PySem PySem.Spec PyProof.Rows L2
abbrev PR : Program := PySem.Challenge.pw_quillrun_k03_whole_no_deed_moves_a_chara
def top (i : Nat) : Stmt := PR.main.body.getD i (.Pass ⟨0, 0, 0, 0⟩)
abbrev sInserted : Stmt := top 3
abbrev sDInit : Stmt := inClass (top 4) 0
abbrev sDAdd : Stmt := inClass (top 4) 2
abbrev sDForces : Stmt := inClass (top 4) 4
abbrev sDChanges : Stmt := inClass (top 4) 6
abbrev sDRow : Stmt := inClass (top 4) 8
abbrev sMix : Stmt := top 6
abbrev sDraws : Stmt := top 7
abbrev sAt : Stmt := top 8
abbrev sIsInt : Stmt := top 9
abbrev sSame : Stmt := top 10
abbrev sLInserted : Stmt := top 11
abbrev sLForces : Stmt := top 12
abbrev sLChanges : Stmt := top 13
abbrev sLRow : Stmt := top 14
abbrev sLLast : Stmt := top 15
abbrev sLModules : Stmt := top 16
abbrev sLLetters : Stmt := top 17
abbrev sLDeed : Stmt := top 18
abbrev sLVisible : Stmt := top 19
abbrev sLTriples : Stmt := top 20
abbrev sLRowsOf : Stmt := top 21
abbrev sLDeeds : Stmt := top 22
abbrev sLMarks : Stmt := top 23
abbrev sLStands : Stmt := top 24
abbrev sLaw : Stmt := top 25
end Q3

set_option Elab.async false
set_option linter.all false
set_option maxRecDepth 100000
set_option maxHeartbeats 4000000
/-! rules of our own: a text times a number; enumerate of a text -/
namespace Q3
open PySem PySem.Spec PyProof.Rows L2
section
variable {X : Cx}
/-- text * n -/
theorem op_repS : OpR X (binaryOp .Mult) (fun x y H Q => ∃ (z : Str) (n : Int), x = .str z ∧ y = .int n ∧ MulOk z n ∧ Q (.str (Txt.mul z n)) H) := by
  intro pins s σ H x y v u Q I rx ry h
  obtain ⟨z, n, ex, ey, ok, q⟩ := h
  subst ex ey
  obtain ⟨t, rfl⟩ := rx
  obtain ⟨t', rfl⟩ := ry
  exact SB.mul ok fun t2 k => ⟨.str _, H, I.tok k, ⟨_, rfl⟩, q⟩
end
/-! enumerate(text): each turn a new pair -/
def ItE (z : Str) : It :=
  ⟨fun i _ => i < z.cps.size, fun i H v H' => ∃ (T : Addr) (c : Nat), v = .ref T ∧ H T = none ∧ H' = upd H T (.tup [.int (i : Nat), .str ⟨#[c]⟩]) ∧ z.cps[i]? = some c, fun i _ => i = z.cps.size⟩
/-- the signs of a text, drawn -/
theorem drawsText {prog : Program} {w : World} {A : Around} (hh : A.handled = none) (it : Addr) (x : Str) (t : Tok) :
    ∃ P : Nat → Value → Prop, (∀ i v, P i v → ∃ c tk, v = .str ⟨#[c]⟩ tk ∧ x.cps[i]? = some c) ∧ Draws prog w A it [it] x.cps.size P (fun i h => h.IsStrIter it (strIterType x) x t i) := by
  cases ha : x.cps.all (· < 128)
  · have e : strIterType x = "str_iterator" := by unfold strIterType; rw [ha]; rfl
    rw [e]
    exact ⟨_, fun i v hv => by obtain ⟨c, tk, h1, h2⟩ := hv; exact ⟨c, tk, h2, h1⟩, Draws.strWide hh it x t⟩
  · have e : strIterType x = "str_ascii_iterator" := by unfold strIterType; rw [ha]; rfl
    rw [e]
    exact ⟨_, fun i v hv => by obtain ⟨c, tk, h1, h2⟩ := hv; exact ⟨c, tk, h2, h1⟩, Draws.strAscii hh it x t⟩
/-- what holds of the two records ahead of turn i -/
abbrev EnSt (z : Str) (tz : Tok) (e it : Addr) (i : Nat) (h : Heap) : Prop := (∃ old, IsEnum h e it ((i : Nat) : Int) old) ∧ h.IsStrIter it (strIterType z) z tz i ∧ e ≠ it
theorem turn_enumS {P : Program} {w : World} {K : PySem.W.Frag} {elts : List Expr} {kk : Nat} {tpos : Pos} {z : Str} {tz : Tok} (e it : Addr) : Turn P w K (.Tuple elts kk tpos) (ItE z) [e, it] e (EnSt z tz e it) where
  mem := List.mem_cons_self
  obj := by
    rintro i h ⟨⟨old, h1⟩, ⟨o2, h2, _, d2⟩, _⟩ b hb
    rcases List.mem_cons.mp hb with q | hb
    · subst q
      exact ⟨_, h1, fun v y => nomatch y⟩
    · have q := List.mem_singleton.mp hb
      exact ⟨o2, by rw [q]; exact h2, fun v y => by rw [d2] at y; cases y⟩
  keep := by
    rintro i h h' ⟨⟨old, h1⟩, h2, ne⟩ k
    exact ⟨⟨old, k e List.mem_cons_self _ h1⟩, (let ⟨o, q, r⟩ := h2; ⟨o, k it (List.mem_cons_of_mem _ List.mem_cons_self) o q, r⟩), ne⟩
  item := by
    intro X hP hw hK hc i pins s σ H E I hf st hg
    subst hP hw hK
    obtain ⟨⟨old, h1⟩, h2, ne⟩ := st
    have hh : X.A.in1.handled = none := I.ok.hd hc
    obtain ⟨P, hPv, D⟩ := drawsText (prog := X.prog) (w := X.w) (A := X.A.in1) hh it z tz
    have le : e < s.heap.objs.size := Heap.lt_size h1
    have li : it < s.heap.objs.size := by
      obtain ⟨_, q, _⟩ := h2
      exact Heap.lt_size q
    refine wpAny_pyNext_enum_itemD D h1 h2 hg ne (fun q => ne (List.mem_singleton.mp q)) fun x h' tk hx out h2' hT hsz hk => ?_
    obtain ⟨c, tk2, rfl, hc2⟩ := hPv i x hx
    refine ⟨_, rfl, wpAny_letOwnedTupleGo_enum (s := { s with heap := h', toks := tk + 1 }) out fun h'' h1'' sb => ?_⟩
    have atT : h''.get? s.heap.objs.size = some { cls := .type "tuple", data := .seq #[.int i tk, .str ⟨#[c]⟩ tk2] } := (sb.2 _ (Nat.ne_of_gt le)).trans hT
    have new : ObjOk X.prog X.w (upd H s.heap.objs.size (.tup [.int (i : Nat), .str ⟨#[c]⟩])) h'' s.heap.objs.size (.tup [.int (i : Nat), .str ⟨#[c]⟩]) :=
      ⟨(by decide : 2 ≤ sizeLine), [.int i tk, .str ⟨#[c]⟩ tk2], .cons ⟨_, rfl⟩ (.cons ⟨_, rfl⟩ .nil), ⟨_, atT, rfl, _, rfl⟩⟩
    have two : ∀ b, b ∉ [e, it] → b ≠ e ∧ b ≠ it := fun b hb => ⟨fun q => hb (by rw [q]; exact List.mem_cons_self), fun q => hb (by rw [q]; exact List.mem_cons_of_mem _ List.mem_cons_self)⟩
    have I1 := I.turnedNew (t' := tk + 1) (ch := [e, it]) (h' := h'') (fun b ob hb q => (sb.2 b (two b hb).1).trans (hk b ob (two b hb).1 (two b hb).2 q)) hf (Nat.le_refl _) new
    have e1 : ((i + 1 : Nat) : Int) = (i : Int) + 1 := by omega
    refine ⟨.ref s.heap.objs.size, _, I1, rfl, ⟨_, c, rfl, I.hok.fresh (Nat.le_refl _), rfl, hc2⟩, ⟨⟨.str ⟨#[c]⟩ tk2, by rw [e1]; exact h1''⟩, (let ⟨o, q, r⟩ := h2'; ⟨o, (sb.2 it ne.symm).trans q, r⟩), ne⟩, fun b hb => ?_⟩
    have hlt : b < s.heap.objs.size := by
      rcases List.mem_cons.mp hb with q | hb
      · rw [q]; exact le
      · rw [List.mem_singleton.mp hb]; exact li
    rw [upd_ne (Nat.ne_of_lt hlt)]
    exact (hf b hb).1
  done := by
    intro X hP hw hK hc i pins s σ H E I hf st hg
    subst hP hw hK
    obtain ⟨⟨old, h1⟩, h2, ne⟩ := st
    have hh : X.A.in1.handled = none := I.ok.hd hc
    obtain ⟨P, hPv, D⟩ := drawsText (prog := X.prog) (w := X.w) (A := X.A.in1) hh it z tz
    have hg : i = z.cps.size := hg
    subst hg
    have f := hf it (List.mem_cons_of_mem _ List.mem_cons_self)
    obtain ⟨f0, f1, f2, f3, f4, f5⟩ := f
    exact wpAny_pyNext_enum_endD D h1 h2 fun h' eb => ⟨rfl, I.turned (t' := s.toks) (fun b o hb q => eb b o hb q) f0 f1 f3 f4 f5⟩
  self := by
    rintro A i s Q E ⟨⟨_, h1⟩, _⟩ h
    exact wpAny_pyIter_enum h1 h
def iEnumS (te : TA) : TI := fun σ H R => te σ H fun vs H1 => ∃ z : Str, vs = [.str z] ∧ R (ItE z) H1
theorem pi_enumS {X : Cx} {e : Expr} {te : TA} {p pos tpos : Pos} {elts : List Expr} {kk : Nat} (hg : Gl X "enumerate") (hm : X.mg "enumerate" = none) (ha : PA X [e] te) (hs : starEach [e] X.env = [(false, eval e X.env)] := by rfl) :
    PI X (.Tuple elts kk tpos) (.Call (.Name "enumerate" p) [e] [] pos) (iEnumS te) := by
  refine ⟨fun pins s σ H R I h => Call_ (ld_blt I hg hm boot_enumerate (PyProof.Rows.callWith_type1 (thn (ha.run pos pins s σ H _ I h) ?_) hs rfl))⟩
  rintro us s1 ⟨vs, H1, I1, r1, z, ez, q⟩
  subst ez
  cases r1 with
  | cons r rr =>
    cases rr
    obtain ⟨tz, rfl⟩ := r
    refine call_enumerate_str fun h' he hit hsz hk => wpAny_pyIter_enum he ?_
    have lo : ∀ b, b ∈ [s1.heap.objs.size + 1, s1.heap.objs.size] → s1.heap.objs.size ≤ b := fun b hb => by
      rcases List.mem_cons.mp hb with q | hb
      · rw [q]; exact Nat.le_succ _
      · rw [List.mem_singleton.mp hb]; exact Nat.le_refl _
    exact ⟨s1.heap.objs.size + 1, [s1.heap.objs.size + 1, s1.heap.objs.size], EnSt z tz (s1.heap.objs.size + 1) s1.heap.objs.size, ItE z, H1, rfl, I1.kept (t' := s1.toks) hk, turn_enumS _ _, ⟨⟨.none, he⟩, hit, Nat.succ_ne_self _⟩, fun b hb => I1.fpOk (lo b hb) (I1.hok.fresh (lo b hb)), q⟩
theorem walk_enumS {z : Str} : Walk (ItE z) z.cps.size (fun _ => True) (fun i H v H' => ∃ (T : Addr) (c : Nat), v = .ref T ∧ H T = none ∧ H' = upd H T (.tup [.int (i : Nat), .str ⟨#[c]⟩]) ∧ z.cps[i]? = some c) :=
  ⟨fun _ _ hi _ => hi, fun _ _ => rfl, fun _ _ _ _ _ _ y => y⟩
end Q3

set_option Elab.async false
set_option linter.all false
set_option maxRecDepth 100000
set_option maxHeartbeats 4000000
/-! rules of our own: sorted(xs, key=lambda e: e[0]), the keys pairs of whole numbers -/
namespace Q3
open PySem PySem.Spec PyProof.Rows L2 LamX
/-- the lambda e: e[0] called with a tuple -/
theorem first_call {prog : Program} {w : World} {A : Around} {E : Value → Shared → Prop} {s : Shared} {f c t m : Addr} {x qual : Str} {scope : Scope} {cl : List (Str × Addr)} {pm ctv : Value} {k0 : Nat} {p1 p2 p3 pa : Pos} {its : List Value} {Q : Value → Shared → Prop}
    (hr : A.depth < recursionLimit) (lim : s.heap.NoLimit) (hk : scope.kind = .function) (hco : scope.isCoroutine = false) (hgen : scope.isGenerator = false) (hn : scope.names = [(x, .local)])
    (ho : s.heap.get? f = some (PySem.W.kla_obj "<lambda>" qual { posonlyargs := [], args := [{ arg := x, annotation := none, pos := pa }], vararg := none, kwonlyargs := [], kw_defaults := [], kwarg := none, defaults := [] }
      (.Subscript (.Name x p1) (.Constant (.int 0) k0 p2) p3) scope cl pm c ctv)) (hcd : s.heap.CodeRec (.ref c) qual)
    (hb : ∀ v : Value, bindArgs (PySem.W.kla_fn "<lambda>" qual { posonlyargs := [], args := [{ arg := x, annotation := none, pos := pa }], vararg := none, kwonlyargs := [], kw_defaults := [], kwarg := none, defaults := [] } (.Subscript (.Name x p1) (.Constant (.int 0) k0 p2) p3) scope cl pm (.ref c) ctv) ⟨[v], []⟩ = pure [(x, v)])
    (ht : IsTup s.heap t its.toArray) (hi : its[0]? = some (.ref m)) (hd : (x == ("__debug__" : Str)) = false)
    (h : ∀ h' tk, (∀ b o, s.heap.get? b = some o → h'.get? b = some o) → Q (.ref m) { s with heap := h', toks := tk }) :
    wpAny (model prog w) A (call (.ref f) [.ref t]) Q E s := by
  have hl : scope.names.lookup x = some .local := by rw [hn, List.lookup_cons]; simp
  refine wpAny_call (PySem.W.kla_callFunE hr ho rfl hco hgen rfl hcd ?_)
  rw [hb]
  refine wpAny_pure (wpAny_newFunctionEnv (fun y hy e => ?_) (fun y hy => ?_) (fun h₁ hns hsb => ⟨lim.fresh _ hsb, ?_⟩) hk)
  · have hy : y ∈ scope.names := hy
    rw [hn] at hy
    rw [List.mem_singleton.mp hy] at e
    cases e
  · rw [List.mem_singleton.mp hy]
    exact hl
  have kp : ∀ b o, s.heap.get? b = some o → h₁.get? b = some o := fun b o e => hsb.extBut b o (Nat.ne_of_lt (Heap.lt_size e)) (Heap.get?_push_of_some _ e)
  refine PySem.W.kla_codeExpr (Subscript_ (wpAny_Name (wpAny_loadName_local (name := x) hk hl hns (v := .ref t) (by simp) ?_) hd))
  refine wpAny_Constant_int ?_
  have ht1 : IsTup h₁ t its.toArray := by
    obtain ⟨o, q, r⟩ := ht
    exact ⟨o, kp _ _ q, r⟩
  have hlen : 0 < its.length := (List.getElem?_eq_some_iff.mp hi).1
  refine subscriptTail_builtinR (x := .ref m) (PyProof.Rows.IsTup.typeIs (s := { s with heap := h₁, toks := _ }) ht1) slot_tuple_getitem.lookup
    (getItem_tuple (j := 0) ht1 (by decide) (by decide) ?_ (by simpa using hi) ⟨rfl, h h₁ _ kp⟩) ?_
  · rw [List.size_toArray]
    have h0 : (0 : Int) < (its.length : Int) := by omega
    simp [seqIndex?, h0]
    intro e
    rw [e] at hlen
    exact absurd hlen (by simp)
  · first
      | exact (fun _ _ => rfl : PlainIx (.Constant (.int 0) k0 p2)) _ _
      | rfl
theorem each_map {α β : Type} {R : α → β → Prop} (f : β → α) (h : ∀ b, R (f b) b) : ∀ bs : List β, PySem.W.EachIs R (bs.map f) bs
  | [] => .nil
  | b :: r => .cons (h b) (each_map f h r)
theorem each_back {α β : Type} (f : β → α) : ∀ {as : List α} {bs : List β}, PySem.W.EachIs (fun a b => a = f b) as bs → as = bs.map f
  | _, _, .nil => rfl
  | _, _, .cons h r => by rw [h, each_back f r]; rfl
theorem vals_refs : ∀ zs : List (Addr × Int × Int), Vals (zs.map fun e => V.ref e.1) (zs.map fun e => Value.ref e.1)
  | [] => .nil
  | _ :: r => .cons rfl (vals_refs r)
/-- the order of keys -/
def mleB (a b : Int × Int) : Bool := decide (a.1 < b.1 ∨ (a.1 = b.1 ∧ a.2 ≤ b.2))
/-- items with their keys: at each address a tuple that begins with a pair -/
def Keyd (H : Hp) (es : List (Addr × Int × Int)) : Prop := ∀ e ∈ es, ∃ (m : Addr) (r : List V), H e.1 = some (.tup (.ref m :: r)) ∧ H m = some (.tup [.int e.2.1, .int e.2.2])
def tSortK (T : List (Addr × Str)) (ta : TA) : TE := fun σ H Q => ta σ H fun vs H1 => ∃ (a : Addr) (es : List (Addr × Int × Int)), vs = [.ref a] ∧ H1 a = some (.lst (es.map fun e => V.ref e.1)) ∧ Tabs T H1 ∧ Keyd H1 es ∧
  ∀ H2 p, ExtN H1 H2 → Tabs T H2 → H2 p = none → Q (.ref p) (upd H2 p (.lst ((es.mergeSort fun x y => mleB x.2 y.2).map fun e => V.ref e.1)))
theorem codeO_rec {X : Cx} {pins : List (Addr × Obj)} {σ : L2.St} {H : Hp} {s : Shared} {c : Addr} {q : Str} (I : Inv X pins σ H s) (h : H c = some (CodeO c q)) : s.heap.CodeRec (.ref c) q := by
  obtain ⟨⟨oc, vs, t, h1, h2, h3⟩, _, _⟩ := I.hok c _ h
  exact ⟨c, oc, vs, t, rfl, h1, h2, h3⟩
/-- sorted(xs, key=lambda e: e[0]) -/
theorem pe_sortK {X : Cx} {T : List (Addr × Str)} {c P : Addr} {e : Expr} {ta : TA} {x : Str} {scope : Scope} {k0 : Nat} {p pos lpos kpos p1 p2 p3 pa : Pos} {k : Nat} (hg : Gl X "sorted") (hm : X.mg "sorted" = none) (hr : Room (k + 1) X.A) (TB : TabB X.base X.mg c P) (hcode : X.env.code = .ref c)
    (hmT : (P, X.env.qual ++ "<lambda>") ∈ T) (hu : ∀ q ∈ T, q.1 = P → q.2 = X.env.qual ++ "<lambda>") (hk : scope.kind = .function) (hco : scope.isCoroutine = false) (hgen : scope.isGenerator = false) (hn : scope.names = [(x, .local)]) (hd : (x == ("__debug__" : Str)) = false) (ha : PA X [e] ta)
    (hb : ∀ (qual : Str) (cl : List (Str × Addr)) (pm cv ctv v : Value), bindArgs (PySem.W.kla_fn "<lambda>" qual { posonlyargs := [], args := [{ arg := x, annotation := none, pos := pa }], vararg := none, kwonlyargs := [], kw_defaults := [], kwarg := none, defaults := [] } (.Subscript (.Name x p1) (.Constant (.int 0) k0 p2) p3) scope cl pm cv ctv) ⟨[v], []⟩ = pure [(x, v)])
    (he : backTo pos (starEach [e] X.env) = (false, eval e X.env) :: backTo pos (starEach [] X.env) := by rfl) (hpl : (backTo pos (starEach [e] X.env)).any (·.1) = false := by rfl) :
    PE X (.Call (.Name "sorted" p) [e] [⟨some "key", .Lambda { posonlyargs := [], args := [{ arg := x, annotation := none, pos := pa }], vararg := none, kwonlyargs := [], kw_defaults := [], kwarg := none, defaults := [] } (.Subscript (.Name x p1) (.Constant (.int 0) k0 p2) p3) scope lpos, kpos⟩] pos) (tSortK T ta) := by
  refine ⟨fun pins s σ H Q I h => ?_⟩
  refine wpAny_Call_Name_kw (ld_blt I hg hm PyProof.Rows.boot_sorted ?_)
  refine PyProof.Rows.callWith_kw (thn (ha.run pos pins s σ H _ I h) ?_) he hpl rfl rfl
  rintro us s1 ⟨vs, H1, I1, r1, a, es, ev, hL, hT, hK, q⟩
  subst ev
  obtain rfl := Vals.ref1 r1
  show wpAny _ _ (evalAll [do let v ← eval (.Lambda { posonlyargs := [], args := [{ arg := x, annotation := none, pos := pa }], vararg := none, kwonlyargs := [], kw_defaults := [], kwarg := none, defaults := [] } (.Subscript (.Name x p1) (.Constant (.int 0) k0 p2) p3) scope lpos) X.env; standAt pos; pure v]) _ _ s1
  refine wpAny_evalAll_cons (wpAny_bind (lam_make2 I1 TB hcode hmT hu hT rfl (fun y hy e => ?_) fun f c' pm ctv H2 s2 I2 eN T2 hf hfn _ hc' => wpAny_bind (wpAny_standAt (wpAny_pure (wpAny_evalAll_nil ?_)))))
  · rw [hn] at hy
    rw [List.mem_singleton.mp hy] at e
    cases e
  show wpAny _ _ (call (.builtin "sorted") [.ref a] [(Str.ofString "key", .ref f)]) _ _ s2
  have hL2 : H2 a = some (.lst (es.map fun e => V.ref e.1)) := eN _ _ hL fun ps z => by cases z
  obtain ⟨its, rv, hl, hz⟩ := I2.list (SqL.of hL2)
  have ei : its = es.map fun e => Value.ref e.1 := by
    have z := refs_at (ps := es.map (·.1)) (us := its) (by rw [List.map_map]; exact rv)
    rw [z, List.map_map]
    rfl
  have hlen : its.length = es.length := by rw [ei, List.length_map]
  have hzl : es.length ≤ sizeLine := by rw [List.length_map] at hz; exact hz
  have un := hr.units
  refine PySem.W.sorted_key_data (b := false) (R := fun (v : Value) (z : Addr × Int × Int) => v = Value.ref z.1) (bs := es) (vs := its) (fun z => .tuple [.int z.2.1, .int z.2.2]) hl.isList (by rw [ei]; exact each_map (R := fun (v : Value) (z : Addr × Int × Int) => v = Value.ref z.1) (fun e => Value.ref e.1) (fun _ => rfl) es)
    (PySem.W.AllAlike.of fun _ _ => by simp [PySem.W.alike, PySem.W.alikeAll]) (PySem.W.Sortable.tuples fun _ => ⟨_, _, rfl⟩) hzl (fun z _ => ?_) (PyProof.Rows.ksk_s1 _ _) (fun _ => PyProof.Rows.ksk_l1 _ _) (fun _ => PyProof.Rows.ksk_t1 _ _)
    (fun v z hv hm h tk kp => ?_) fun out ct h' tk kp _ hget hol eo => ?_
  · have hdp : (PyData.tuple [.int z.2.1, .int z.2.2]).depth = 1 := by simp [PyData.depth, PyData.depthAll]
    omega
  · subst hv
    obtain ⟨m, r, hz1, hz2⟩ := hK z hm
    have hz1 := eN _ _ hz1 fun ps q => by cases q
    have hz2 := eN _ _ hz2 fun ps q => by cases q
    obtain ⟨_, ts, rt, o1, ho1, hc1, n1, hd1⟩ := I2.hok _ _ hz1
    obtain ⟨_, us, ru, o2, ho2, hc2, n2, hd2⟩ := I2.hok _ _ hz2
    cases rt with
    | cons rm rr =>
      rename_i um ur
      cases rm
      obtain ⟨u1, u2, rfl, ⟨t1, rfl⟩, ⟨t2, rfl⟩⟩ := vals2 ru
      obtain ⟨ca, oc, vs, tt, hca, g1, g2, g3⟩ := codeO_rec I2 hc'
      refine first_call (s := { s2 with heap := h, toks := tk }) (by show X.A.depth < recursionLimit; exact hr.depth) (I2.nolimit.keeps kp) hk hco hgen hn (kp _ _ hf) ⟨ca, oc, vs, tt, hca, kp _ _ g1, g2, g3⟩ (fun v => hb _ _ _ _ _ v)
        (its := .ref m :: ur) ⟨o1, kp _ _ ho1, hc1, n1, hd1⟩ rfl hd fun h' tk' kp' => ⟨h', tk', rfl, kp', ?_⟩
      exact Reads.tuple (kp' _ _ (kp _ _ ho2)) hc2 hd2 (.cons (Reads.int _ _) (.cons (Reads.int _ _) .nil))
  · rw [PySem.W.dataLe_ii (β := Addr × Int × Int) (fun z => z.2.1) (fun z => z.2.2)] at eo
    have eout := each_back (fun z : Addr × Int × Int => Value.ref z.1) eo
    have hl2 : (es.mergeSort fun x y => mleB x.2 y.2).length = es.length := List.length_mergeSort _
    refine ⟨.ref _, upd H2 (s2.heap.objs.size + 1) (.lst ((es.mergeSort fun x y => mleB x.2 y.2).map fun e => V.ref e.1)), I2.laid kp (Nat.le_succ _) ⟨by rw [List.length_map, hl2]; exact hzl, out, ct, ?_, hget⟩, rfl, q H2 _ eN T2 (I2.hok.fresh (Nat.le_succ _))⟩
    rw [eout]
    exact vals_refs _
end Q3

set_option Elab.async false
set_option linter.all false
set_option maxRecDepth 100000
set_option maxHeartbeats 4000000
/-! rules of our own: {x: True for x in t} with keys that are pairs of whole numbers; d.update(of such) -/
namespace Q3
open PySem PySem.Spec PyProof.Rows L2
abbrev mkK (m : Int × Int) : List Key := [Sum.inl m.1, Sum.inl m.2]
/-- a dict of marks, all True, in the order of their first coming -/
def addM (S : List (Int × Int)) (m : Int × Int) : List (Int × Int) := if m ∈ S then S else S ++ [m]
def setM (ms : List (Int × Int)) : List (Int × Int) := ms.foldl addM []
def kvM (S : List (Int × Int)) : List (List Key × V) := S.map fun m => (mkK m, V.bl true)
theorem mkK_inj {a b : Int × Int} (h : mkK a = mkK b) : a = b := by
  obtain ⟨a1, a2⟩ := a
  obtain ⟨b1, b2⟩ := b
  simp only [mkK, List.cons.injEq, Sum.inl.injEq, and_true] at h
  rw [h.1, h.2]
theorem valM (m : Int × Int) : ∀ S : List (Int × Int), valV (kvM S) (mkK m) = if m ∈ S then some (V.bl true) else none
  | [] => by simp [kvM, valV_nil]
  | a :: r => by
    by_cases e : a = m
    · subst e
      show valV ((mkK a, V.bl true) :: kvM r) (mkK a) = _
      rw [valV_pos rfl]
      simp
    · show valV ((mkK a, V.bl true) :: kvM r) (mkK m) = _
      rw [valV_neg (fun z => e (mkK_inj z)), valM m r]
      simp [Ne.symm e]
theorem putM (S : List (Int × Int)) (m : Int × Int) : putK (kvM S) (mkK m) (.bl true) = kvM (addM S m) := by
  unfold addM
  by_cases h : m ∈ S
  · rw [if_pos h]
    unfold putK
    have e := valV_any (mkK m) (kvM S)
    rw [valM, if_pos h] at e
    split
    · unfold kvM
      rw [List.map_map]
      refine List.map_congr_left fun a _ => ?_
      show (if mkK a = mkK m then (mkK a, V.bl true) else (mkK a, V.bl true)) = (mkK a, V.bl true)
      split <;> rfl
    · rename_i hn
      rw [e] at hn
      exact absurd rfl hn
  · rw [if_neg h, putK_new _ (by rw [valM, if_neg h])]
    unfold kvM
    rw [List.map_append]
    rfl
theorem setM_snoc (ms : List (Int × Int)) (m : Int × Int) : setM (ms ++ [m]) = addM (setM ms) m := by
  unfold setM; rw [List.foldl_append]; rfl
theorem addM_len (S : List (Int × Int)) (m : Int × Int) : (addM S m).length ≤ S.length + 1 := by
  unfold addM; split <;> simp
theorem setM_len (ms : List (Int × Int)) : (setM ms).length ≤ ms.length := by
  have key : ∀ (ms S : List (Int × Int)), (ms.foldl addM S).length ≤ S.length + ms.length := by
    intro ms
    induction ms with
    | nil => intro S; simp
    | cons m r ih =>
      intro S
      have := ih (addM S m)
      have := addM_len S m
      simp only [List.foldl_cons, List.length_cons]
      omega
  have := key ms []
  unfold setM
  simpa using this
theorem mem_addM {S : List (Int × Int)} {m x : Int × Int} : x ∈ addM S m ↔ x ∈ S ∨ x = m := by
  unfold addM
  split
  · constructor
    · exact .inl
    · rintro (h | h)
      · exact h
      · subst h; assumption
  · simp
theorem nodup_addM {S : List (Int × Int)} {m : Int × Int} (h : S.Nodup) : (addM S m).Nodup := by
  unfold addM
  split
  · exact h
  · rename_i hn
    rw [List.nodup_append]
    exact ⟨h, by simp, fun a ha b hb e => hn (by rw [List.mem_singleton.mp hb] at e; rw [← e]; exact ha)⟩
theorem nodup_foldM (ms : List (Int × Int)) : ∀ S : List (Int × Int), S.Nodup → (ms.foldl addM S).Nodup := by
  induction ms with
  | nil => intro S h; exact h
  | cons m r ih => intro S h; exact ih _ (nodup_addM h)
theorem mem_foldM {x : Int × Int} (ms : List (Int × Int)) : ∀ S : List (Int × Int), x ∈ ms.foldl addM S ↔ x ∈ S ∨ x ∈ ms := by
  induction ms with
  | nil => intro S; simp
  | cons m r ih =>
    intro S
    rw [List.foldl_cons, ih, mem_addM, List.mem_cons]
    constructor
    · rintro ((h | h) | h)
      · exact .inl h
      · exact .inr (.inl h)
      · exact .inr (.inr h)
    · rintro (h | h | h)
      · exact .inl (.inl h)
      · exact .inl (.inr h)
      · exact .inr h
/-- a pair of whole numbers stands at b -/
def MkAt (H : Hp) (b : Addr) (m : Int × Int) : Prop := H b = some (.tup [.int m.1, .int m.2])
section
variable {X : Cx} {pins : List (Addr × Obj)} {σ : L2.St} {H : Hp} {s : Shared} {E : Value → Shared → Prop}
/-- d[m] = True within a comprehension -/
theorem dictSetM {A : Around} {D b : Addr} {S : List (Int × Int)} {m : Int × Int} {Q : Unit → Shared → Prop} (hu : A.units < cLine) (I : Inv X pins σ H s) (hD : H D = some (.dT (kvM S))) (hb : MkAt H b m) (hz : S.length < sizeLine)
    (h : ∀ s', Inv X pins σ (upd H D (.dT (kvM (addM S m)))) s' → Q () s') : wpAny (model X.prog X.w) A (dictSet D (.ref b) (.bool true)) Q E s := by
  obtain ⟨z, hd, xs, rel, dd⟩ := dt_of I.hok hD
  have lx : xs.length ≤ sizeLine := by rw [← Paired.length rel]; exact z
  have hk : H b = some (.tup ((mkK m).map kV)) := hb
  refine wpAny_dictSet_heap (hsz := lx) hu (key_of I.hok hk) dd fun h' dd' hs => h _ ?_
  obtain ⟨q, es, ep, hq, h2, h3, h4, _, h5⟩ := dd'
  rw [← putM]
  have hl : (putK (kvM S) (mkK m) (V.bl true)).length ≤ sizeLine := by
    have := length_putK (kvM S) (mkK m) (V.bl true)
    have e : (kvM S).length = S.length := List.length_map _
    omega
  refine d_write (ob := .dT (putK (kvM S) (mkK m) (V.bl true))) I (by rw [hD]; exact True.intro) hs ⟨q, hq⟩ ⟨hl, hd, _, (rel.put (mkK m) hk (show RelV (V.bl true) (Value.bool true) from rfl)).keeps fun c ys ec => ?_, q, es, ep, hq, h2, h3, h4, h5⟩
  rw [upd_ne (ne_of ec hD (fun z => nomatch z))]
  exact ec
end
/-- all the marks of a tuple stand as pairs -/
def MksAt (H : Hp) (bs : List (Addr × Int × Int)) : Prop := ∀ e ∈ bs, MkAt H e.1 e.2
def tDcM (tl : TE) : TE := fun σ H Q => tl σ H fun v H1 => ∃ (t : Addr) (bs : List (Addr × Int × Int)), v = .ref t ∧ H1 t = some (.tup (bs.map fun e => V.ref e.1)) ∧ MksAt H1 bs ∧ ∀ D, H1 D = none → Q (.ref D) (upd H1 D (.dT (kvM (setM (bs.map (·.2))))))
section
variable {X : Cx} {pins : List (Addr × Obj)} {σ : L2.St} {H : Hp} {s : Shared}
/-- the context of the block that the comprehension over these starts at s3 -/
abbrev blkAt (X : Cx) (s3 : Shared) (H3 : Hp) (scope : Scope) (fp : List Addr) : Cx := X.blk s3 H3 scope (compEnvC scope (cellsFrom (s3.heap.objs.size + 1) scope.names (cloFrom X.env.cells scope.names [])) s3.heap.objs.size X.env) fp
/-- {x: True for x in t} -/
theorem pe_dcM {x : Str} {iter : Expr} {scope : Scope} {i j : Nat} {pos p1 p2 p3 : Pos} {tl : TE} (hc : X.calm = true) (hN : X.N.Nodup) (hu : X.A.units < cLine) (hi : PE X iter tl) (hil : i < X.N.length) (ok : BlkOk X.N X.env.scope scope [(x, i)])
    (hg : ∀ (s : Shared) (H : Hp) (C : Addr) (cl : List (Str × Addr)) (fp : List Addr), PG (X.blk s H scope (compEnvC scope cl C X.env) fp) (.Name x p3) (gName i)) (hk : ∀ (s : Shared) (H : Hp) (C : Addr) (cl : List (Str × Addr)) (fp : List Addr), PE (X.blk s H scope (compEnvC scope cl C X.env) fp) (.Name x p1) (tVar i))
    (hs : ∀ v, foldedSetIterable iter X.env v = pure v := by intro _; rfl) : PE X (.DictComp (.Name x p1) (.Constant (.bool true) j p2) [⟨.Name x p3, iter, [], 0⟩] scope pos) (tDcM tl) := by
  refine ⟨fun pins s σ H Q I h => ?_⟩
  have look : ∀ y ∈ scope.names, y.2 = .free → ∃ c, X.env.cells.lookup y.1 = some c := fun y hy e => (ok.free y hy e).elim (fun k => I.ok.has _ (.inl k)) fun k => I.ok.has _ (.inr k)
  rw [arm_eval_DictComp]
  refine wpAny_comprehension_free (use := none) rfl hs (closure_ok look) ok.kind (fun y hy e => by rw [ok.uniq y hy, e]) (thn (hi.run pins s σ H _ I h) ?_)
  rintro v1 s1 ⟨w1, H1, I1, r1, t, bs, rfl, ht, hm, q⟩
  cases r1
  obtain ⟨its, rv, tp, hz⟩ := I1.tuple (SqT.of ht)
  refine wpAny_pyIter_tuple (show s1.heap.IsTuple t its.toArray from tp) (wpAny_newObj_type (newEnv_comp ?_))
  -- the iterator, the new dict
  generalize hit : s1.heap.objs.size = it
  generalize e2 : ({ s1 with heap := s1.heap.push { cls := .type "tuple_iterator", data := .fields #[.ref t, .int 0 0] } } : Shared) = s2
  have h2 : s2.heap = s1.heap.push { cls := .type "tuple_iterator", data := .fields #[.ref t, .int 0 0] } := by rw [← e2]
  have I2 : Inv X pins σ H1 s2 := by
    rw [← e2]
    exact I1.kept (t' := s1.toks) fun b o e => Heap.get?_push_of_some _ e
  have st2 : s2.heap.IsTupleIter it t 0 := by
    rw [h2, ← hit]
    exact ⟨_, Heap.get?_push_size _ rfl, rfl, rfl⟩
  have nIt : H1 it = none := I1.hok.fresh (Nat.le_of_eq hit)
  have fIt : FpOk X pins H1 it := I1.fpOk (Nat.le_of_eq hit) nIt
  generalize hD : s2.heap.objs.size = D
  have nD : H1 D = none := I2.hok.fresh (Nat.le_of_eq hD)
  have ltIt : it < D := by
    obtain ⟨o, z, _⟩ := st2
    rw [← hD]
    exact Heap.lt_size z
  generalize e3 : ({ s2 with heap := s2.heap.push { cls := .type "dict", data := .dict #[] } } : Shared) = s3
  have h3 : s3.heap = s2.heap.push { cls := .type "dict", data := .dict #[] } := by rw [← e3]
  have I3 : Inv X pins σ (upd H1 D (.dT [])) s3 := by
    rw [← e3]
    refine I2.laid (t' := s2.toks) (fun b o e => Heap.get?_push_of_some _ e) (Nat.le_of_eq hD) ?_
    rw [← hD]
    exact dt_empty s2.heap I2.big
  have st3 : s3.heap.IsTupleIter it t 0 := st2.at fun o z => by rw [h3]; exact Heap.get?_push_of_some _ z
  have n3 : upd H1 D (.dT []) it = none := by rw [upd_ne (Nat.ne_of_lt ltIt)]; exact nIt
  have f3 : ∀ b ∈ [it], FpOk X pins (upd H1 D (.dT [])) b ∧ b < s3.heap.objs.size := fun b hb => by
    rw [List.mem_singleton.mp hb]
    exact ⟨⟨n3, fIt.2⟩, by rw [h3, Heap.size_push, hD]; exact Nat.lt_succ_of_lt ltIt⟩
  have I4 := block_start I3 ok hN f3
  have pg := hg s3 (upd H1 D (.dT [])) s3.heap.objs.size (cellsFrom (s3.heap.objs.size + 1) scope.names (cloFrom X.env.cells scope.names [])) [it]
  have pk := hk s3 (upd H1 D (.dT [])) s3.heap.objs.size (cellsFrom (s3.heap.objs.size + 1) scope.names (cloFrom X.env.cells scope.names [])) [it]
  show codeAny _ _ (.compStart (.DictComp (.Name x p1) (.Constant (.bool true) j p2) [⟨.Name x p3, iter, [], 0⟩] scope pos) 0 (.ref it) (.ref D) (compEnvC scope (cellsFrom (s3.heap.objs.size + 1) scope.names (cloFrom X.env.cells scope.names [])) s3.heap.objs.size X.env))
    (compPost (model X.prog X.w) X.A X.xe none (EP X pins σ Q) (.ref D) s3.heap.objs.size) { s3 with heap := pushCells (s3.heap.push { cls := .type "dict", data := .dict #[] }) scope.names }
  generalize hce : compEnvC scope (cellsFrom (s3.heap.objs.size + 1) scope.names (cloFrom X.env.cells scope.names [])) s3.heap.objs.size X.env = ce at I4 pg pk ⊢
  have cL : ce.locals = s3.heap.objs.size := by
    rw [← hce]
    rfl
  generalize e4 : ({ s3 with heap := pushCells (s3.heap.push { cls := .type "dict", data := .dict #[] }) scope.names } : Shared) = s4 at I4 ⊢
  have st4 : s4.heap.IsTupleIter it t 0 := st3.at fun o z => by
    rw [← e4]
    exact pushCells_keeps _ _ _ _ (Heap.get?_push_of_some _ z)
  have own : ∀ {σ' : L2.St} {H' : Hp} {s' : Shared}, Inv (X.blk s3 (upd H1 D (.dT [])) scope ce [it]) [] σ' H' s' → H' it = none → ∀ b ∈ [it], FpOk (X.blk s3 (upd H1 D (.dT [])) scope ce [it]) [] H' b := fun {σ' H' s'} J hn b hb => by
    have z := J.ok.exf b hb
    refine ⟨by rw [List.mem_singleton.mp hb]; exact hn, z.1, J.ok.exfs b hb, .inl hb, fun y c e => z.2 y c e, fun p hp => ?_⟩
    cases hp
  have T := fun (J : Addr) => turn_tuple (P := X.prog) (w := X.w) (K := X.K) (tg := .Name x p3) t J
  have loop : codeAny (model X.prog X.w) X.A (.compLoop (.DictComp (.Name x p1) (.Constant (.bool true) j p2) [⟨.Name x p3, iter, [], 0⟩] scope pos) 0 (.ref it) (.ref D) ce) (compPost (model X.prog X.w) X.A X.xe none (EP X pins σ Q) (.ref D) s3.heap.objs.size) s4 := by
    refine compLoop_anyD (fun n s' => ∃ k, n = bs.length - k ∧ k ≤ bs.length ∧ Inv (X.blk s3 (upd H1 D (.dT [])) scope ce [it]) [] (wipe σ ([(x, i)].map (·.2))) (upd H1 D (.dT (kvM (setM ((bs.take k).map (·.2)))))) s' ∧ s'.heap.IsTupleIter it t k) ?_ bs.length ⟨0, rfl, Nat.zero_le _, ?_, st4⟩
    · rintro n s5 ⟨i5, rfl, hi5, I5, st5⟩
      have at_ : ∀ {b : Addr} {u : HO} {S : HO}, H1 b = some u → upd H1 D S b = some u := fun e => by rw [upd_ne (ne_of_none e nD)]; exact e
      have n5 : upd H1 D (.dT (kvM (setM ((bs.take i5).map (·.2))))) it = none := by rw [upd_ne (Nat.ne_of_lt ltIt)]; exact nIt
      by_cases hlt : i5 < bs.length
      · have hb : bs[i5]? = some bs[i5] := List.getElem?_eq_getElem hlt
        have ti := (T it).item (X.blk s3 (upd H1 D (.dT [])) scope ce [it]) rfl rfl rfl hc i5 [] s5 _ _ (fun _ _ => False) I5 (own I5 n5) st5 ⟨_, V.ref bs[i5].1, SqT.of (at_ ht), by rw [List.getElem?_map, hb]; rfl⟩
        refine thnF ti ?_
        rintro r s6 ⟨u, rfl, h6⟩
        refine thnF h6 ?_
        rintro _ s7 ⟨y, H7, I7, r7, ⟨eH, y7⟩, st7, n7⟩
        subst eH
        have ey : y = V.ref bs[i5].1 := by
          have z := y7 _ (SqT.of (at_ ht))
          rw [List.getElem?_map, hb] at z
          exact (Option.some.inj z).symm
        subst ey
        have I8 := I7.pinned (own I7 n5) ((T it).obj _ _ st7)
        refine thnF (pg.run _ s7 _ _ _ _ (fun σ' H' => σ' = (wipe σ ([(x, i)].map (·.2))).set i (some (V.ref bs[i5].1)) ∧ H' = upd H1 D (.dT (kvM (setM ((bs.take i5).map (·.2)))))) I8 r7 ⟨rfl, rfl⟩) ?_
        rintro _ s8 ⟨σ8, H8, I9, rfl, rfl⟩
        refine thnF ((pts_nil (X := X.blk s3 (upd H1 D (.dT [])) scope ce [it])).run _ s8 _ _ (fun b H' => b = true ∧ H' = upd H1 D (.dT (kvM (setM ((bs.take i5).map (·.2)))))) I9 ⟨rfl, rfl⟩) ?_
        rintro _ s9 ⟨H9, I10, rfl, rfl⟩
        rw [if_pos rfl]
        have len0 : (wipe σ ([(x, i)].map (·.2))).length = σ.length := wipe_length _ _
        have hi0 : i < (wipe σ ([(x, i)].map (·.2))).length := by rw [len0, I.len]; exact hil
        refine thnF (pk.run _ s9 _ _ (fun v H' => v = V.ref bs[i5].1 ∧ H' = upd H1 D (.dT (kvM (setM ((bs.take i5).map (·.2)))))) I10 ⟨_, List.getElem?_set_self hi0, rfl, rfl⟩) ?_
        rintro vk s10 ⟨_, _, I11, rk, rfl, rfl⟩
        refine thnF ((pe_bl (X := X.blk s3 (upd H1 D (.dT [])) scope ce [it])).run _ s10 _ _ (fun v H' => v = V.bl true ∧ H' = upd H1 D (.dT (kvM (setM ((bs.take i5).map (·.2)))))) I11 ⟨rfl, rfl⟩) ?_
        rintro vt s11 ⟨_, _, I12, rt, rfl, rfl⟩
        cases rk
        cases rt
        have hm5 : bs[i5] ∈ bs := List.getElem_mem hlt
        have e5 : (bs.take (i5 + 1)).map (·.2) = (bs.take i5).map (·.2) ++ [bs[i5].2] := by rw [List.take_add_one, hb, List.map_append]; rfl
        refine dictSetM (X := X.blk s3 (upd H1 D (.dT [])) scope ce [it]) (S := setM ((bs.take i5).map (·.2))) (m := bs[i5].2) hu I12 upd_same (at_ (hm _ hm5)) ?_ fun s12 I13 => ?_
        · have l1 := setM_len ((bs.take i5).map (·.2))
          rw [List.length_map, List.length_take] at l1
          have l2 : bs.length ≤ sizeLine := by rw [List.length_map] at hz; exact hz
          omega
        · rw [upd_upd, ← setM_snoc, ← e5] at I13
          have pin : ∀ o, s7.heap.get? it = some o → s12.heap.get? it = some o := fun o e => (I13.pin (it, o) (List.mem_append_right _ (List.mem_append_right _ (mem_pinsAt List.mem_cons_self e)))).1
          refine ⟨bs.length - (i5 + 1), by omega, i5 + 1, rfl, hlt, (I13.unpinned (pins := [])).weak (by rw [List.length_set]) (fun k v e => ?_), st7.at pin⟩
          have z := (wipe_some e).2
          rw [List.getElem?_set_ne (fun q => z (by rw [← q]; exact List.mem_cons_self))]
          exact e
      · have e5 : i5 = bs.length := by omega
        subst e5
        have td := (T it).done (X.blk s3 (upd H1 D (.dT [])) scope ce [it]) rfl rfl rfl hc bs.length [] s5 _ _ (fun _ _ => False) I5 (own I5 n5) st5 ⟨_, SqT.of (at_ ht), by rw [List.length_map]; exact Nat.le_refl _⟩
        refine thnF td ?_
        rintro r s6 ⟨rfl, I6⟩
        have I7 : Inv X pins σ _ s6 := I3.call' (ch := [it]) I6.os I6.base I6.hok I6.bare fun b hb => ⟨(f3 b hb).1.2.2.2.1, (f3 b hb).1.2.1, (f3 b hb).1.2.2.2.2.1, (f3 b hb).1.2.2.2.2.2⟩
        have nC : upd H1 D (.dT (kvM (setM ((bs.take bs.length).map (·.2))))) s3.heap.objs.size = none := by
          rw [← cL]
          exact I6.free
        obtain ⟨mm, hn, _⟩ := I6.loc
        have hn : s6.heap.Ns ce.locals mm := hn
        rw [cL] at hn
        obtain ⟨f0, f1, f2, g3, g4, g5⟩ := I3.fpOk (Nat.le_refl _) nC
        refine ⟨mm, hn, fun h'' sb => ⟨.ref D, _, I7.turned (t' := s6.toks) (fun b o hb e => (sb.2 b hb).trans e) f0 f1 g3 g4 g5, rfl, ?_⟩⟩
        rw [List.take_length]
        exact q D nD
    · exact I4
  exact codeAny_compStart_dict loop ((T it).self X.A 0 _ _ _ st4 loop)
end
end Q3

set_option Elab.async false
set_option linter.all false
set_option maxRecDepth 100000
set_option maxHeartbeats 4000000
/-! the hashes of small pairs differ; d.update(d2) over dicts of pairs -/
namespace Q3
open PySem PySem.Spec PyProof.Rows L2
/-- all residues differ, by a set of bits -/
def apartB (P : Nat) : List Nat → Nat → Bool
  | [], _ => true
  | x :: r, s => !s.testBit (x % P) && apartB P r (s ||| 2 ^ (x % P))
theorem apartB_ok {P : Nat} : ∀ (l : List Nat) (s : Nat), apartB P l s = true → (∀ x ∈ l, s.testBit (x % P) = false) ∧ l.Pairwise fun a b => a % P ≠ b % P
  | [], _, _ => ⟨fun _ h => (nomatch h), List.Pairwise.nil⟩
  | x :: r, s, h => by
    unfold apartB at h
    rw [Bool.and_eq_true, Bool.not_eq_true'] at h
    obtain ⟨h1, h2⟩ := apartB_ok r _ h.2
    have key : ∀ y ∈ r, s.testBit (y % P) = false ∧ x % P ≠ y % P := fun y hy => by
      have z := h1 y hy
      rw [Nat.testBit_or, Bool.or_eq_false_iff] at z
      refine ⟨z.1, fun e => ?_⟩
      rw [e, Nat.testBit_two_pow_self] at z
      cases z.2
    refine ⟨fun y hy => ?_, List.pairwise_cons.mpr ⟨fun y hy => (key y hy).2, h2⟩⟩
    rcases List.mem_cons.mp hy with e | hy
    · rw [e]; exact h.1
    · exact (key y hy).1
/-- the hash of a pair -/
def hM (m : Int × Int) : Int := reduceHash (Builtin.Tuple.tupleHashOf [hashInt m.1, hashInt m.2])
def smallM : List (Int × Int) := (List.range 256).flatMap fun (n : Nat) => (List.range 8).map fun (r : Nat) => ((Int.ofNat n), (Int.ofNat r))
theorem small_apart : apartB 300000 (smallM.map fun m => (hM m % 300000).toNat) 0 = true := by decide +kernel
/-- a pair of small numbers -/
def Small (m : Int × Int) : Prop := 0 ≤ m.1 ∧ m.1 < 256 ∧ 0 ≤ m.2 ∧ m.2 < 8
theorem mem_smallM {m : Int × Int} (h : Small m) : m ∈ smallM := by
  obtain ⟨a, b⟩ := m
  obtain ⟨h1, h2, h3, h4⟩ := h
  refine List.mem_flatMap.mpr ⟨a.toNat, List.mem_range.mpr (by simp only at h1 h2; omega), List.mem_map.mpr ⟨b.toNat, List.mem_range.mpr (by simp only at h3 h4; omega), ?_⟩⟩
  simp only at h1 h3
  show (((a.toNat : Nat) : Int), ((b.toNat : Nat) : Int)) = (a, b)
  rw [Int.toNat_of_nonneg h1, Int.toNat_of_nonneg h3]
theorem hM_inj {a b : Int × Int} (ha : Small a) (hb : Small b) (e : hM a = hM b) : a = b := by
  have p := (apartB_ok _ _ small_apart).2
  rw [List.pairwise_map] at p
  obtain ⟨i, hi, ei⟩ := List.mem_iff_getElem.mp (mem_smallM ha)
  obtain ⟨j, hj, ej⟩ := List.mem_iff_getElem.mp (mem_smallM hb)
  have o := List.pairwise_iff_getElem.mp p
  rcases Nat.lt_trichotomy i j with h | h | h
  · have := o i j hi hj h
    rw [ei, ej, e] at this
    exact absurd rfl this
  · subst h
    rw [← ei, ← ej]
  · have := o j i hj hi h
    rw [ei, ej, e] at this
    exact absurd rfl this
section
variable {X : Cx}
theorem KT_all {H : Hp} {R : List (Int × Int)} : ∀ {S : List (Int × Int)} {xs ys : List (List Key × Addr × Value)}, KT H (kvM S) xs → KT H (kvM R) ys → KT H (kvM (R.foldl addM S)) (storedAllH xs ys) := by
  induction R with
  | nil =>
    intro S xs ys h1 h2
    cases h2
    exact h1
  | cons m r ih =>
    intro S xs ys h1 h2
    cases h2 with
    | cons hq t =>
      rename_i q qs
      obtain ⟨e1, e2, e3⟩ := hq
      have e1' : q.1 = mkK m := e1.symm
      have z := h1.put (mkK m) (b := q.2.1) (y := .bl true) (u := q.2.2) e2 e3
      rw [putM] at z
      rw [List.foldl_cons]
      refine ih (S := addM S m) (xs := storedH xs q.1 q.2.1 q.2.2) ?_ t
      rw [e1']
      exact z
/-- d.update(d2) -/
theorem mt_updateM (hu : X.A.units + 1 < cLine) : MtR X "dict.update" (fun x vs H Q => ∃ (a d : Addr) (S R : List (Int × Int)), x = .ref a ∧ vs = [.ref d] ∧ a ≠ d ∧ H a = some (.dT (kvM S)) ∧ H d = some (.dT (kvM R)) ∧ R.Nodup ∧ (∀ m ∈ R, Small m) ∧ S.length + R.length ≤ sizeLine ∧
    Q .non (upd H a (.dT (kvM (R.foldl addM S))))) := by
  intro pins s σ H x vs v us Q I rx rv h
  obtain ⟨a, d, S, R, rfl, rfl, ne, ha, hd, hnd, hs, hz, q⟩ := h
  cases rx
  obtain rfl := Vals.ref1 rv
  obtain ⟨za, ya, xs, rel, dd⟩ := dt_of I.hok ha
  obtain ⟨zd, yd, ys, rel2, dd2⟩ := dt_of I.hok hd
  have lx : xs.length = S.length := by rw [← Paired.length rel]; exact List.length_map _
  have ly : ys.length = R.length := by rw [← Paired.length rel2]; exact List.length_map _
  have hkeys : ys.map (·.1) = R.map mkK := by
    have key : ∀ {R : List (Int × Int)} {ys : List (List Key × Addr × Value)}, KT H (kvM R) ys → ys.map (·.1) = R.map mkK := by
      intro R
      induction R with
      | nil => intro ys h; cases h; rfl
      | cons m r ih =>
        intro ys h
        cases h with
        | cons hq t =>
          rw [List.map_cons, List.map_cons, ih t, ← hq.1]
    exact key rel2
  refine call_update_dictH (knd := tupleKind (mixKind X.prog X.w)) (show X.A.units + 1 < cLine from hu) ne yd dd dd2 (.inr ⟨fun z hz => ?_, ?_⟩) (by omega) fun h' d1 d2 sb => ?_
  · have key : ∀ {R : List (Int × Int)} {ys : List (List Key × Addr × Value)}, KT H (kvM R) ys → ∀ z ∈ ys, ∃ ts, H z.2.1 = some (.tup ts) := by
      intro R
      induction R with
      | nil => intro ys h; cases h; intro z hz; cases hz
      | cons m r ih =>
        intro ys h
        cases h with
        | cons hq t =>
          intro z hz
          rcases List.mem_cons.mp hz with e | hz
          · rw [e]; exact ⟨_, hq.2.1⟩
          · exact ih t z hz
    obtain ⟨ts, ht⟩ := key rel2 z hz
    obtain ⟨_, its, _, tp⟩ := I.hok _ _ ht
    exact tp.typeIs
  · have e : (ys.map fun z => (tupleKind (mixKind X.prog X.w)).hash z.1) = (R.map hM) := by
      have : (ys.map fun z => (tupleKind (mixKind X.prog X.w)).hash z.1) = (ys.map (·.1)).map (tupleKind (mixKind X.prog X.w)).hash := by rw [List.map_map]; rfl
      rw [this, hkeys, List.map_map]
      rfl
    rw [e, List.Nodup, List.pairwise_map]
    exact hnd.imp_of_mem fun hx hy hne he => hne (hM_inj (hs _ hx) (hs _ hy) he)
  · obtain ⟨o, es, ep, ho, h2, h3, h4, _, h5⟩ := d1
    have rel3 := KT_all rel rel2
    have l3 : (kvM (R.foldl addM S)).length ≤ sizeLine := by
      have e1 := storedAllH_length ys xs
      have e2 := Paired.length rel3
      omega
    refine ⟨.non, _, d_write (t' := s.toks) (ob := .dT (kvM (R.foldl addM S))) I (by rw [ha]; exact True.intro) sb ⟨o, ho⟩ ⟨l3, ya, _, rel3.keeps fun c ts ec => ?_, o, es, ep, ho, h2, h3, h4, h5⟩, rfl, q⟩
    rw [upd_ne (ne_of ec ha (fun z => nomatch z))]
    exact ec
end
end Q3

set_option Elab.async false
set_option linter.all false
set_option maxRecDepth 100000
set_option maxHeartbeats 4000000
/-! the data and how they stand in the heap -/
namespace Q3
open PySem PySem.Spec PyProof.Rows L2 LamX
/-- a deed -/
inductive Deed where
  | chg (m : Str) (rem : List Mark) (beh : Option Mark) (num : Int) (text : Str)
  | bak (place : Int)
/-! ### lists item by item -/
section
variable {α β γ : Type} {F G : α → β → Prop}
theorem p_get : ∀ {l : List α} {m : List β} {i : Nat} {a : α}, Paired F l m → l[i]? = some a → ∃ b, m[i]? = some b ∧ F a b
  | _, _, _, _, .nil, h => by simp at h
  | _, _, 0, _, .cons h _, e => by simp at e; subst e; exact ⟨_, rfl, h⟩
  | _, _, i + 1, _, .cons _ t, e => by
    obtain ⟨b, h1, h2⟩ := p_get (i := i) t (by simpa using e)
    exact ⟨b, by simpa using h1, h2⟩
theorem p_get' : ∀ {l : List α} {m : List β} {i : Nat} {b : β}, Paired F l m → m[i]? = some b → ∃ a, l[i]? = some a ∧ F a b
  | _, _, _, _, .nil, h => by simp at h
  | _, _, 0, _, .cons h _, e => by simp at e; subst e; exact ⟨_, rfl, h⟩
  | _, _, i + 1, _, .cons _ t, e => by
    obtain ⟨b, h1, h2⟩ := p_get' (i := i) t (by simpa using e)
    exact ⟨b, by simpa using h1, h2⟩
theorem p_mono (h : Paired F l m) (f : ∀ a b, F a b → G a b) : Paired G l m := Paired.mapP h f
theorem p_take (n : Nat) : ∀ {l : List α} {m : List β}, Paired F l m → Paired F (l.take n) (m.take n) := by
  induction n with
  | zero => intro l m _; exact .nil
  | succ n ih =>
    intro l m h
    cases h with
    | nil => exact .nil
    | cons h t => exact .cons h (ih t)
theorem p_drop (n : Nat) : ∀ {l : List α} {m : List β}, Paired F l m → Paired F (l.drop n) (m.drop n) := by
  induction n with
  | zero => intro l m h; exact h
  | succ n ih =>
    intro l m h
    cases h with
    | nil => exact .nil
    | cons h t => exact ih t
theorem p_app : ∀ {l l' : List α} {m m' : List β}, Paired F l m → Paired F l' m' → Paired F (l ++ l') (m ++ m')
  | _, _, _, _, .nil, s => s
  | _, _, _, _, .cons h t, s => .cons h (p_app t s)
theorem p_mapR (f : β → γ) {R : α → γ → Prop} : ∀ {l : List α} {m : List β}, Paired (fun a b => R a (f b)) l m → Paired R l (m.map f)
  | _, _, .nil => .nil
  | _, _, .cons h t => .cons h (p_mapR f t)
theorem p_mem {b : β} : ∀ {l : List α} {m : List β}, Paired F l m → b ∈ m → ∃ a ∈ l, F a b
  | _, _, .nil, h => nomatch h
  | _, _, .cons h t, e => by
    rcases List.mem_cons.mp e with e | e
    · subst e; exact ⟨_, List.mem_cons_self, h⟩
    · obtain ⟨a, h1, h2⟩ := p_mem t e
      exact ⟨a, List.mem_cons_of_mem _ h1, h2⟩
theorem p_set : ∀ {l : List α} {m : List β} {i : Nat} {a : α} {b : β}, Paired F l m → F a b → Paired F (l.set i a) (m.set i b)
  | _, _, _, _, _, .nil, _ => .nil
  | _, _, 0, _, _, .cons _ t, h => .cons h t
  | _, _, i + 1, _, _, .cons q t, h => .cons q (p_set t h)
theorem p_monoM : ∀ {l : List α} {m : List β}, Paired F l m → (∀ a ∈ l, ∀ b, F a b → G a b) → Paired G l m
  | _, _, .nil, _ => .nil
  | _, _, .cons h t, f => .cons (f _ List.mem_cons_self _ h) (p_monoM t fun a ha b => f a (List.mem_cons_of_mem _ ha) b)
theorem p_upd : ∀ {l : List α} {m : List β} {i : Nat} {a : α} {b' : β}, Paired F l m → l.Nodup → l[i]? = some a → (∀ c b, c ≠ a → F c b → G c b) → G a b' → Paired G l (m.set i b')
  | _, _, _, _, _, .nil, _, h, _, _ => by simp at h
  | _, _, 0, _, _, .cons h t, hn, e, f, g => by
    simp at e
    subst e
    have hn' := List.nodup_cons.mp hn
    exact .cons g (p_monoM t fun c hc b q => f c b (fun z => hn'.1 (by rw [← z]; exact hc)) q)
  | _, _, i + 1, a, _, .cons h t, hn, e, f, g => by
    have hn' := List.nodup_cons.mp hn
    have e' := by simpa using e
    have hm := List.mem_of_getElem? e'
    exact .cons (f _ _ (fun z => hn'.1 (by rw [z]; exact hm)) h) (p_upd t hn'.2 e' f g)
end
theorem take_snoc {α : Type} {l : List α} {i : Nat} {a : α} (h : l[i]? = some a) : l.take (i + 1) = l.take i ++ [a] := by
  rw [List.take_add_one, h]; rfl
theorem lt_of_get {α : Type} {l : List α} {i : Nat} {a : α} (h : l[i]? = some a) : i < l.length := (List.getElem?_eq_some_iff.mp h).1
/-! ### frames -/
/-- the tuples stay -/
def TT (H H' : Hp) : Prop := ∀ b xs, H b = some (.tup xs) → H' b = some (.tup xs)
theorem TT.refl (H : Hp) : TT H H := fun _ _ h => h
theorem TT.trans {H H1 H2 : Hp} (a : TT H H1) (b : TT H1 H2) : TT H H2 := fun c o h => b c o (a c o h)
theorem TT.of {H H' : Hp} (s : Same H H') : TT H H' := fun _ _ h => s _ _ h
theorem TT.ext {H H' : Hp} (s : ExtN H H') : TT H H' := fun _ _ h => s _ _ h fun ps z => by cases z
/-- an object that is no tuple is written -/
theorem TT.put {H : Hp} {l : Addr} {o o' : HO} (h : H l = some o) (ho : ∀ xs, o ≠ .tup xs) : TT H (upd H l o') := fun b xs e => by
  rw [upd_ne (fun z => by rw [z, h] at e; exact ho xs (Option.some.inj e))]
  exact e
theorem TT.putL {H : Hp} {l : Addr} {xs : List V} {o' : HO} (h : H l = some (.lst xs)) : TT H (upd H l o') := TT.put h fun _ z => by cases z
theorem Same.new {H : Hp} {p : Addr} {o : HO} (h : H p = none) : Same H (upd H p o) := fun b u e => by rw [upd_ne (ne_of_none e h)]; exact e
theorem TT.new {H : Hp} {p : Addr} {o : HO} (h : H p = none) : TT H (upd H p o) := TT.of (Same.new h)
/-- all but the tables stays, and the tables stay good -/
structure Ex (T : List (Addr × Str)) (H H' : Hp) : Prop where
  ext : ExtN H H'
  tab : Tabs T H → Tabs T H'
section
variable {T : List (Addr × Str)} {H0 H H1 H2 : Hp}
theorem Ex.refl : Ex T H H := ⟨ExtN.refl H, id⟩
theorem Ex.trans (a : Ex T H H1) (b : Ex T H1 H2) : Ex T H H2 := ⟨a.ext.trans b.ext, fun t => b.tab (a.tab t)⟩
theorem Ex.of (s : Same H H1) : Ex T H H1 := ⟨ExtN.of s, fun t => t.ext s⟩
theorem Ex.tt (e : Ex T H H1) : TT H H1 := TT.ext e.ext
theorem Ex.at (e : Ex T H H1) {b : Addr} {o : HO} (h : H b = some o) (n : ∀ ps, o ≠ .tbl ps := by intro ps z; cases z) : H1 b = some o := e.ext _ _ h n
theorem Ex.new (e : Ex T H0 H) {p : Addr} {o : HO} (h : H p = none) : Ex T H0 (upd H p o) := e.trans (Ex.of (Same.new h))
/-- an object that came behind H0, no table and no code, is written -/
theorem Ex.put (e : Ex T H0 H) {l : Addr} {o o' : HO} (h0 : H0 l = none) (h : H l = some o) (n : ∀ ps, o ≠ .tbl ps := by intro ps z; cases z) (n2 : ∀ φ, o ≠ .ext φ := by intro ps z; cases z) : Ex T H0 (upd H l o') := by
  refine ⟨fun b u q nt => ?_, fun t p hp => ?_⟩
  · rw [upd_ne (ne_of_none q h0)]
    exact e.ext b u q nt
  · obtain ⟨ps, e1, e2, e3⟩ := e.tab t p hp
    refine ⟨ps, ?_, e2, fun pos cv hc => ?_⟩
    · rw [upd_ne (fun z => by rw [z, h] at e1; exact n ps (Option.some.inj e1))]
      exact e1
    · obtain ⟨c, c1, c2⟩ := e3 pos cv hc
      refine ⟨c, c1, ?_⟩
      rw [upd_ne (fun z => by rw [z, h] at c2; exact n2 _ (Option.some.inj c2))]
      exact c2
theorem Ex.free (e : Ex T H0 H) {l : Addr} (h : H l = none) (hn : ∀ ps, H0 l ≠ some (.tbl ps)) : H0 l = none := by
  cases q : H0 l with
  | none => rfl
  | some o =>
    have z : H l = some o := e.ext l o q fun ps z => hn ps (by rw [q, z])
    rw [h] at z
    cases z
theorem same_put {H0 H : Hp} (e : Same H0 H) {l : Addr} {o' : HO} (h0 : H0 l = none) : Same H0 (upd H l o') := fun b u q => by
  rw [upd_ne (ne_of_none q h0)]
  exact e b u q
end
/-! ### marks, deeds, rows in the heap -/
def IsMk (H : Hp) (v : V) (m : Mark) : Prop := ∃ a, v = .ref a ∧ H a = some (.tup [.int m.1, .int m.2])
def IsOM (H : Hp) (v : V) : Option Mark → Prop
  | none => v = .non
  | some m => IsMk H v m
def IsDeed (H : Hp) (v : V) : Deed → Prop
  | .chg m rem beh num text => ∃ (a t : Addr) (b : V) (bs : List (Addr × Int × Int)), v = .ref a ∧ H a = some (.tup [.str "change", .str m, .ref t, b, .int num, .str text]) ∧
      H t = some (.tup (bs.map fun e => V.ref e.1)) ∧ bs.map (·.2) = rem ∧ MksAt H bs ∧ IsOM H b beh
  | .bak p => ∃ a, v = .ref a ∧ H a = some (.tup [.str "back", .int p])
section
variable {H H' : Hp}
theorem IsMk.tt {v : V} {m : Mark} (h : IsMk H v m) (t : TT H H') : IsMk H' v m := let ⟨a, e, q⟩ := h; ⟨a, e, t _ _ q⟩
theorem IsOM.tt {v : V} : ∀ {m : Option Mark}, IsOM H v m → TT H H' → IsOM H' v m
  | none, h, _ => h
  | some _, h, t => IsMk.tt h t
theorem IsDeed.tt {v : V} {d : Deed} (h : IsDeed H v d) (t : TT H H') : IsDeed H' v d := by
  cases d with
  | chg m rem beh num text =>
    obtain ⟨a, tt, b, bs, e1, e2, e3, e4, e5, e6⟩ := h
    exact ⟨a, tt, b, bs, e1, t _ _ e2, t _ _ e3, e4, fun z hz => t _ _ (e5 z hz), e6.tt t⟩
  | bak p =>
    obtain ⟨a, e1, e2⟩ := h
    exact ⟨a, e1, t _ _ e2⟩
end
/-- at b a list of these deeds -/
def RowAt (H : Hp) (b : Addr) (ds : List Deed) : Prop := ∃ vs, H b = some (.lst vs) ∧ Paired (IsDeed H) vs ds
/-- at a a list of rows, each at an address of its own -/
def RowsAt (H : Hp) (a : Addr) (rows : List (List Deed)) : Prop := ∃ bs : List Addr, H a = some (.lst (bs.map V.ref)) ∧ bs.Nodup ∧ a ∉ bs ∧ Paired (RowAt H) bs rows
theorem RowAt.ex {T : List (Addr × Str)} {H H' : Hp} {b : Addr} {ds : List Deed} (h : RowAt H b ds) (e : Ex T H H') : RowAt H' b ds := by
  obtain ⟨vs, h1, h2⟩ := h
  exact ⟨vs, e.at h1, p_mono h2 fun _ _ q => q.tt e.tt⟩
theorem RowsAt.ex {T : List (Addr × Str)} {H H' : Hp} {a : Addr} {rows : List (List Deed)} (h : RowsAt H a rows) (e : Ex T H H') : RowsAt H' a rows := by
  obtain ⟨bs, h1, h2, h3, h4⟩ := h
  exact ⟨bs, e.at h1, h2, h3, p_mono h4 fun _ _ q => q.ex e⟩
theorem RowsAt.same {H H' : Hp} {a : Addr} {rows : List (List Deed)} (h : RowsAt H a rows) (e : Same H H') : RowsAt H' a rows := h.ex (T := []) (Ex.of e)
theorem RowAt.same {H H' : Hp} {a : Addr} {ds : List Deed} (h : RowAt H a ds) (e : Same H H') : RowAt H' a ds := h.ex (T := []) (Ex.of e)
/-! ### defs as they are called -/
structure Cal (P : Program) (w : World) (K : PySem.W.Frag) (mg : Str → Option Value) (base : Heap) (k : Nat) (x : Str) (sp : Sp) : Prop where
  ex : ∃ (f : Addr) (fd : FuncData) (ps : List Str), FnOk P w K mg base CX0 k f fd ps sp ∧ mg x = some (.ref f) ∧ PySem.W.keepIn K (.ref f) = true ∧ Binds K fd ps []
structure Met (P : Program) (w : World) (K : PySem.W.Frag) (mg : Str → Option Value) (base : Heap) (k : Nat) (C : Addr) (m : Str) (sp : Sp) : Prop where
  ex : ∃ (f : Addr) (fd : FuncData) (ps : List Str), Cls K C ∧ Meth K C m f ∧ FnOk P w K mg base CX0 k f fd ps sp ∧ Binds K fd ps []
structure Mak (P : Program) (w : World) (K : PySem.W.Frag) (mg : Str → Option Value) (base : Heap) (k : Nat) (x : Str) (C : Addr) (sp : Sp) : Prop where
  ex : ∃ (f : Addr) (fd : FuncData) (ps : List Str), Mk K C f ∧ FnOk P w K mg base CX0 k f fd ps sp ∧ mg x = some (.ref C) ∧ Binds K fd ps []
section
variable {X : Cx} {k j : Nat} {C : Addr} {x m : Str} {sp : Sp} {p pos apos : Pos} {e o : Expr} {es : List Expr} {ta : TE} {t : TA}
theorem pe_f (c : Cal X.prog X.w X.K X.mg X.base k x sp) (hr : Room j X.A) (hk : k ≤ j) (hg : Gl X x) (ha : PA X (e :: es) t)
    (hdb : (x == ("__debug__" : Str)) = false := by decide) (he : starEach (e :: es) X.env = (false, eval e X.env) :: starEach es X.env := by rfl) (hpl : (backTo pos (starEach es X.env)).any (·.1) = false := by rfl) :
    PE X (.Call (.Name x p) (e :: es) [] pos) (tCall sp [] E0 t) := by
  obtain ⟨f, fd, ps, F, hm, kp, b⟩ := c.ex
  exact pe_call F (hr.mono hk) hg hm kp b .nil pass0 ha hdb he hpl
theorem pe_f0 (c : Cal X.prog X.w X.K X.mg X.base k x sp) (hr : Room j X.A) (hk : k ≤ j) (hg : Gl X x) (hdb : (x == ("__debug__" : Str)) = false := by decide) : PE X (.Call (.Name x p) [] [] pos) (tCall sp [] E0 tNil) := by
  obtain ⟨f, fd, ps, F, hm, kp, b⟩ := c.ex
  exact pe_call0 F (hr.mono hk) hg hm kp b .nil pass0 hdb
theorem pe_k0 (c : Mak X.prog X.w X.K X.mg X.base k x C sp) (hr : Room j X.A) (hk : k + 1 ≤ j) (hg : Gl X x) (hdb : (x == ("__debug__" : Str)) = false := by decide) : PE X (.Call (.Name x p) [] [] pos) (tMake C sp [] E0 tNil) := by
  obtain ⟨f, fd, ps, M, F, hm, b⟩ := c.ex
  exact pe_make0 M F (hr.mono hk) hg hm b .nil pass0 hdb
theorem pe_mm {pl : Sem Bool} (c : Met X.prog X.w X.K X.mg X.base k C m sp) (hr : Room j X.A) (hk : k ≤ j) (he : PE X o ta) (ha : PA X (e :: es) t)
    (hst : starEach (e :: es) X.env = (false, eval e X.env) :: starEach es X.env := by rfl) (hpl : (backTo pos (starEach es X.env)).any (·.1) = false := by rfl)
    (ht : eval (.Call (.Attribute o m apos) (e :: es) [] pos) X.env = (do
      let z ← eval o X.env
      standAt apos.atName
      let (f, first) ← holding [z] (getMethod z m pl)
      callWith pos f first (backTo pos (starEach (e :: es) X.env)) (backToKw pos (keywordEach [] X.env))) := by rfl) :
    PE X (.Call (.Attribute o m apos) (e :: es) [] pos) (tMeth C m sp [] E0 ta t) := by
  obtain ⟨f, fd, ps, hc, hm, F, b⟩ := c.ex
  exact pe_meth (pl := pl) he hc hm F (hr.mono hk) b .nil pass0 ha hst hpl ht
end
/-- the names that the top leaves to the built-ins -/
structure Txt (K : PySem.W.Frag) (mg : Str → Option Value) : Prop where
  range : mg "range" = none
  len : mg "len" = none
  min : mg "min" = none
  max : mg "max" = none
  int : mg "int" = none
  isinstance : mg "isinstance" = none
  list : mg "list" = none
  tuple : mg "tuple" = none
  sorted : mg "sorted" = none
  enumerate : mg "enumerate" = none
  zip : mg "zip" = none
  bool : mg "bool" = none
  str : mg "str" = none
  rep : ∃ t, mg "REPLICAS" = some (.int 8 t)
end Q3

set_option Elab.async false
set_option linter.all false
set_option maxRecDepth 100000
set_option maxHeartbeats 4000000
/-! inserted, _law_inserted -/
namespace Q3
open PySem PySem.Spec PyProof.Rows L2 LamX
/-- what a change inserts: mark, the one before it, code -/
def insE (r num : Int) (beh : Option Mark) (cs : List Nat) : List (Mark × Option Mark × Nat) := cs.mapIdx fun i c => ((num + (i : Int), r), (if i = 0 then beh else some (num + (i : Int) - 1, r)), c)
theorem insE_get {r num : Int} {beh : Option Mark} {cs : List Nat} {i : Nat} {c : Nat} (h : cs[i]? = some c) : (insE r num beh cs)[i]? = some ((num + (i : Int), r), (if i = 0 then beh else some (num + (i : Int) - 1, r)), c) := by
  unfold insE
  rw [List.getElem?_mapIdx, h]
  rfl
theorem insE_len {r num : Int} {beh : Option Mark} {cs : List Nat} : (insE r num beh cs).length = cs.length := by unfold insE; rw [List.length_mapIdx]
def IsIns (H : Hp) (v : V) (e : Mark × Option Mark × Nat) : Prop := ∃ a x y, v = .ref a ∧ H a = some (.tup [x, y, .str ⟨#[e.2.2]⟩]) ∧ IsMk H x e.1 ∧ IsOM H y e.2.1
theorem IsIns.tt {H H' : Hp} {v : V} {e : Mark × Option Mark × Nat} (h : IsIns H v e) (t : TT H H') : IsIns H' v e := by
  obtain ⟨a, x, y, h1, h2, h3, h4⟩ := h
  exact ⟨a, x, y, h1, t _ _ h2, h3.tt t, h4.tt t⟩
def spIns : Sp := fun vs H Q _ => ∃ (r : Int) (dv : V) (m : Str) (rem : List Mark) (beh : Option Mark) (num : Int) (text : Str), vs = [.int r, dv] ∧ IsDeed H dv (.chg m rem beh num text) ∧ text.cps.size ≤ 1000 ∧
  ∀ (H' : Hp) (p : Addr) (us : List V), Same H H' → H p = none → H' p = some (.lst us) → Paired (IsIns H') us (insE r num beh text.cps.toList) → Q (.ref p) H'
section
variable {P : Program} {w : World} {K : PySem.W.Frag} {mg : Str → Option Value} {base : Heap}
theorem scIns : FnScope ["replica", "deed", "result", "behind", "index", "character", "mark"] ["replica", "deed"] (defScope sInserted) := ⟨rfl, rfl, rfl, by decide +kernel, rfl, by decide +kernel, by decide +kernel⟩
theorem cal_ins {f : Addr} {fd : FuncData} (F : Fun K "inserted" "inserted" sInserted f fd) (hm : mg "inserted" = some (.ref f)) (T : Txt K mg) : Cal P w K mg base 1 "inserted" spIns := by
  refine ⟨f, fd, ["replica", "deed"], F.ok scIns (fun vs H Q E h => ?_) (fun cdv A outer s H vs Q E hr h => ?_), hm, F.kp, F.binds fun _ _ _ _ _ _ us hl => match us, hl with | [_, _], _ => rfl⟩
  · obtain ⟨r, dv, m, rem, beh, num, text, rfl, _⟩ := h
    rfl
  · obtain ⟨r, dv, m, rem, beh, num, text, rfl, hD, hz, k⟩ := h
    have nd := scIns.nd
    refine ⟨_, pss_cons (ps_set (i := 2) nd rfl (Or.inl rfl) (pe_lst pa_nil))
      (pss_cons (ps_set (i := 3) nd rfl (Or.inl rfl) (pe_ix ix_tup (pv 1) pe_int (fun _ _ => rfl)))
      (pss_cons (ps_for PassesOwn.never rfl (pi_enumS (by rfl) T.enumerate (pa_cons (pe_ix ix_tup (pv 1) pe_int (fun _ _ => rfl)) pa_nil)) (pg_tup rfl (pgs_cons (pg_name (i := 4) nd rfl (.inl rfl)) (pgs_cons (pg_name (i := 5) nd rfl (.inl rfl)) pgs_nil)))
        (pss_cons (ps_set (i := 6) nd rfl (Or.inl rfl) (pe_tup (pa_cons (pe_op op_add (pe_ix ix_tup (pv 1) pe_int (fun _ _ => rfl)) (pv 4)) (pa_cons (pv 0) pa_nil))))
        (pss_cons (ps_expr (pe_bm PySem.F.plainAttrs_list PySem.F.slot_list_append PySem.F.type_list_append mt_append (pv 2) (pa_cons (pe_tup (pa_cons (pv 6) (pa_cons (pv 3) (pa_cons (pv 5) pa_nil)))) pa_nil)))
        (pss_one (ps_set (i := 3) nd rfl (Or.inl rfl) (pv 6))))))
      (pss_one (ps_ret (pv 2))))), ?_⟩
    refine ⟨Nat.zero_le _, fun p hp => ?_⟩
    have s0 : Same H (upd H p (.lst [])) := Same.new hp
    obtain ⟨a, t, b, bs, rfl, ha, ht, hb, hm, hbe⟩ := id hD
    have ha1 := s0 _ _ ha
    refine ⟨_, rfl, a, _, 3, b, rfl, rfl, SqT.of ha1, atI_nat (j := 3) rfl, ?_⟩
    refine ⟨_, rfl, a, _, 5, _, rfl, rfl, SqT.of ha1, atI_nat (j := 5) rfl, text, rfl, ?_⟩
    refine for_it walk_enumS (fun i σ H1 => ∃ (bv : V) (us : List V) (w4 w5 w6 : Option V), σ = [some (.int r), some (.ref a), some (.ref p), some bv, w4, w5, w6] ∧ Same H H1 ∧ H1 p = some (.lst us) ∧ Paired (IsIns H1) us ((insE r num beh text.cps.toList).take i) ∧
        IsOM H1 bv (if i = 0 then beh else some (num + (i : Int) - 1, r))) ?_ (fun _ _ _ _ _ => True.intro) ?_ ?_
    · exact ⟨b, [], none, none, none, rfl, s0, upd_same, .nil, hbe.tt (TT.of s0)⟩
    · rintro i x σ H1 H2 hi ⟨bv, us, w4, w5, w6, rfl, s1, hL, hP, hO⟩ ⟨q, c, rfl, hq, rfl, hc⟩
      have e1 := Same.new (H := H1) (o := .tup [.int (i : Nat), .str ⟨#[c]⟩]) hq
      have s2 := s1.trans e1
      refine ⟨q, _, rfl, SqT.of upd_same, rfl, _, _, rfl, _, _, rfl, rfl, ?_⟩
      refine ⟨_, rfl, a, _, 4, _, rfl, rfl, SqT.of (s2 _ _ ha), atI_nat (j := 4) rfl, _, rfl, _, _, rfl, rfl, _, rfl, (by show 2 ≤ sizeLine; decide), fun m1 hm1 => ?_⟩
      have e2 := Same.new (H := upd H1 q (.tup [.int (i : Nat), .str ⟨#[c]⟩])) (o := .tup [.int (num + (i : Nat)), .int r]) hm1
      have hL3 := e2 _ _ (e1 _ _ hL)
      refine ⟨_, rfl, .inl ⟨rfl, _, SqL.of hL3⟩, _, rfl, _, rfl, _, rfl, (by show 3 ≤ sizeLine; decide), fun m2 hm2 => ?_⟩
      have e3 := Same.new (o := .tup [.ref m1, bv, .str ⟨#[c]⟩]) hm2
      have hL4 := e3 _ _ hL3
      have hl : us.length = i := by
        have := Paired.length hP
        rw [this, List.length_take, insE_len, Array.length_toList]
        omega
      have hbig : us.length < sizeLine := by rw [hl]; exact small1000 (by omega)
      refine ⟨p, us, _, rfl, rfl, hL4, hbig, ?_⟩
      refine ⟨_, rfl, ?_⟩
      have s5 := (s2.trans (e2.trans e3))
      have tall := TT.of (e1.trans (e2.trans e3))
      have tput : TT _ (upd _ p (.lst (us ++ [.ref m2]))) := TT.putL hL4
      have gc : text.cps.toList[i]? = some c := by rw [Array.getElem?_toList]; exact hc
      have hmk : IsMk (upd (upd (upd (upd H1 q (.tup [.int (i : Nat), .str ⟨#[c]⟩])) m1 (.tup [.int (num + (i : Nat)), .int r])) m2 (.tup [.ref m1, bv, .str ⟨#[c]⟩])) p (.lst (us ++ [.ref m2]))) (.ref m1) (num + (i : Int), r) :=
        ⟨m1, rfl, tput _ _ (e3 _ _ upd_same)⟩
      refine ⟨.ref m1, us ++ [.ref m2], _, _, _, rfl, same_put s5 hp, upd_same, ?_, ?_⟩
      · rw [take_snoc (insE_get gc)]
        refine Paired.snoc (p_mono hP fun v z h => (h.tt tall).tt tput) ⟨m2, .ref m1, bv, rfl, tput _ _ upd_same, hmk, (hO.tt tall).tt tput⟩
      · have e : num + ((i + 1 : Nat) : Int) - 1 = num + (i : Int) := by omega
        rw [if_neg (Nat.succ_ne_zero i), e]
        exact hmk
    · rintro σ H1 ⟨bv, us, w4, w5, w6, rfl, s1, hL, hP, hO⟩
      refine ⟨_, rfl, k H1 p us s1 hp hL ?_⟩
      rw [List.take_of_length_le (by rw [insE_len, Array.length_toList]; exact Nat.le_refl _)] at hP
      exact hP
end
end Q3

set_option Elab.async false
set_option linter.all false
set_option maxRecDepth 100000
set_option maxHeartbeats 4000000
/-! Deeds.__init__, Deeds.add -/
namespace Q3
open PySem PySem.Spec PyProof.Rows L2 LamX
/-- facts of the class -/
structure TD (K : PySem.W.Frag) (C : Addr) : Prop where
  cl : Cls K C
  nR : NoAttr K C "rows"
/-- an object with these rows, made behind H0 -/
def DeedsIn (C : Addr) (H0 H : Hp) (p : Addr) (rows : List (List Deed)) : Prop :=
  Same H0 H ∧ H0 p = none ∧ ∃ (dx a : Addr) (bs : List Addr), H p = some (.ins C dx [("rows", .ref a)]) ∧ H a = some (.lst (bs.map V.ref)) ∧ bs.Nodup ∧ a ∉ bs ∧ H0 a = none ∧ (∀ b ∈ bs, H0 b = none) ∧ Paired (RowAt H) bs rows
/-- an object with these rows -/
def DeedsAt (C : Addr) (H : Hp) (p : Addr) (rows : List (List Deed)) : Prop := ∃ dx a : Addr, H p = some (.ins C dx [("rows", .ref a)]) ∧ RowsAt H a rows
theorem DeedsIn.at {C : Addr} {H0 H : Hp} {p : Addr} {rows : List (List Deed)} (h : DeedsIn C H0 H p rows) : DeedsAt C H p rows := by
  obtain ⟨_, _, dx, a, bs, h1, h2, h3, h4, _, _, h5⟩ := h
  exact ⟨dx, a, h1, bs, h2, h3, h4, h5⟩
theorem DeedsAt.ex {T : List (Addr × Str)} {C : Addr} {H H' : Hp} {p : Addr} {rows : List (List Deed)} (h : DeedsAt C H p rows) (e : Ex T H H') : DeedsAt C H' p rows := by
  obtain ⟨dx, a, h1, h2⟩ := h
  exact ⟨dx, a, e.at h1, h2.ex e⟩
def addR (rows : List (List Deed)) (r : Nat) (d : Deed) : List (List Deed) := rows.set r (rows.getD r [] ++ [d])
def noRows : List (List Deed) := List.replicate 8 []
def spDInit (C : Addr) : Sp := fun vs H Q _ => ∃ (H0 : Hp) (p dx : Addr), vs = [.ref p] ∧ Same H0 H ∧ H0 p = none ∧ H p = some (.ins C dx []) ∧ ∀ H' : Hp, DeedsIn C H0 H' p noRows → Q .non H'
def spDAdd (C : Addr) : Sp := fun vs H Q _ => ∃ (H0 : Hp) (p : Addr) (rows : List (List Deed)) (r : Nat) (dv : V) (d : Deed), vs = [.ref p, .int (r : Nat), dv] ∧ DeedsIn C H0 H p rows ∧ r < rows.length ∧ (rows.getD r []).length < 1000 ∧ IsDeed H dv d ∧
  ∀ H' : Hp, DeedsIn C H0 H' p (addR rows r d) → TT H H' → Q .non H'
section
variable {P : Program} {w : World} {K : PySem.W.Frag} {mg : Str → Option Value} {base : Heap} {C : Addr}
theorem scDI : FnScope ["self", "_"] ["self"] (defScope sDInit) := ⟨rfl, rfl, rfl, by decide +kernel, rfl, by decide +kernel, by decide +kernel⟩
theorem mak_deeds {f : Addr} {fd : FuncData} (F : Fun K "__init__" "Deeds.__init__" sDInit f fd) (M : Mk K C f) (hm : mg "Deeds" = some (.ref C)) (T : Txt K mg) (D : TD K C) : Mak P w K mg base 1 "Deeds" C (spDInit C) := by
  refine ⟨f, fd, ["self"], M, F.ok scDI (fun vs H Q E h => ?_) (fun cdv A outer s H vs Q E hr h => ?_), hm, F.binds fun _ _ _ _ _ _ us hl => match us, hl with | [_], _ => rfl⟩
  · obtain ⟨H0, p, dx, rfl, _⟩ := h
    rfl
  · obtain ⟨H0, p, dx, rfl, s0, p0, hp, k⟩ := h
    have nd := scDI.nd
    obtain ⟨tr, hrep⟩ := T.rep
    refine ⟨_, pss_one (ps_fld (pv 0) (pe_lc (own := [("_", 1)]) (g := gName 1) (tt := tYes) rfl nd (pi_range1 rfl T.range (pa_cons (pe_glob (v := .int 8) rfl hrep ⟨_, rfl⟩) pa_nil)) (blkOk_by (N := ["self", "_"]) (sc := defScope sDInit) (by decide +kernel))
      (fun _ _ _ _ _ => pg_name (i := 1) nd rfl (Or.inl rfl)) (fun _ _ _ _ _ => pts_nil) (fun _ _ _ _ _ => pe_lst pa_nil)) rfl), ?_⟩
    refine ⟨8, rfl, by decide, by decide, fun D0 hD => ?_⟩
    have hD00 : H0 D0 = none := s0.free hD
    refine lc_range (lo := 0) (n := 8) (fun i H1 => Same H0 H1 ∧ H1 p = some (.ins C dx []) ∧ ∃ bs : List Addr, bs.length = i ∧ H1 D0 = some (.lst (bs.map V.ref)) ∧ bs.Nodup ∧ D0 ∉ bs ∧ (∀ b ∈ bs, H0 b = none ∧ H1 b = some (.lst []))) ?_ ?_ ?_
    · exact ⟨s0.trans (Same.new hD), Same.new hD _ _ hp, [], rfl, upd_same, .nil, by simp, fun b hb => nomatch hb⟩
    · rintro i H1 hi ⟨s1, hp1, bs, hl, hL, hn, hnD, hb⟩
      refine ⟨rfl, Nat.zero_le _, fun l hl0 => ?_⟩
      have ne := ne_of_none hL hl0
      refine ⟨_, (Same.new hl0) _ _ hL, by rw [List.length_map]; exact small1000 (by omega), same_put (s1.trans (Same.new hl0)) hD00, ?_, bs ++ [l], by simp [hl], ?_, ?_, ?_, ?_⟩
      · rw [upd_ne (ne_of hp1 hL (fun z => nomatch z))]
        exact Same.new hl0 _ _ hp1
      · rw [upd_same, List.map_append]
        rfl
      · rw [List.nodup_append]
        refine ⟨hn, by simp, fun b hb1 c hc e => ?_⟩
        rw [List.mem_singleton.mp hc] at e
        have z := (hb b hb1).2
        rw [e, hl0] at z
        cases z
      · rw [List.mem_append, List.mem_singleton, not_or]
        exact ⟨hnD, ne⟩
      · intro b hb1
        rcases List.mem_append.mp hb1 with q | q
        · obtain ⟨z1, z2⟩ := hb b q
          refine ⟨z1, ?_⟩
          rw [upd_ne (fun z => hnD (by rw [← z]; exact q))]
          exact Same.new hl0 _ _ z2
        · rw [List.mem_singleton.mp q]
          refine ⟨s1.free hl0, ?_⟩
          rw [upd_ne ne.symm, upd_same]
    · rintro H1 ⟨s1, hp1, bs, hl, hL, hn, hnD, hb⟩
      refine ⟨_, rfl, p, C, dx, [], rfl, hp1, D.cl, D.nR, (by show 0 < 1000; decide), ?_⟩
      refine k _ ⟨same_put s1 p0, p0, dx, D0, bs, upd_same, ?_, hn, hnD, hD00, fun b hb1 => (hb b hb1).1, ?_⟩
      · rw [upd_ne (ne_of hL hp1 (fun z => nomatch z))]
        exact hL
      · have key : ∀ (bs : List Addr) (n : Nat), bs.length = n → (∀ b ∈ bs, H0 b = none ∧ H1 b = some (.lst [])) → Paired (RowAt (upd H1 p (.ins C dx (putF "rows" (.ref D0) [])))) bs (List.replicate n []) := by
          intro bs
          induction bs with
          | nil => intro n h _; subst h; exact .nil
          | cons b r ih =>
            intro n h hb
            subst h
            refine .cons ⟨[], ?_, .nil⟩ (ih _ rfl fun c hc => hb c (List.mem_cons_of_mem _ hc))
            have z := (hb b List.mem_cons_self).2
            rw [upd_ne (ne_of z hp1 (fun z => nomatch z))]
            exact z
        exact key bs 8 hl hb
theorem scDA : FnScope ["self", "replica", "deed"] ["self", "replica", "deed"] (defScope sDAdd) := ⟨rfl, rfl, rfl, by decide +kernel, rfl, by decide +kernel, by decide +kernel⟩
theorem met_add {f : Addr} {fd : FuncData} (F : Fun K "add" "Deeds.add" sDAdd f fd) (M : Meth K C "add" f) (D : TD K C) : Met P w K mg base 1 C "add" (spDAdd C) := by
  refine ⟨f, fd, ["self", "replica", "deed"], D.cl, M, F.ok scDA (fun vs H Q E h => ?_) (fun cdv A outer s H vs Q E hr h => ?_), F.binds fun _ _ _ _ _ _ us hl => match us, hl with | [_, _, _], _ => rfl⟩
  · obtain ⟨H0, p, rows, r, dv, d, rfl, _⟩ := h
    rfl
  · obtain ⟨H0, p, rows, r, dv, d, rfl, ⟨s0, p0, dx, a, bs, hp, ha, hn, hna, a0, b0, hP⟩, hr8, hz, hd, k⟩ := h
    have hl := Paired.length hP
    have hrb : r < bs.length := by omega
    have gb : bs[r]? = some bs[r] := List.getElem?_eq_getElem hrb
    have gr : rows[r]? = some rows[r] := List.getElem?_eq_getElem hr8
    have gd : rows.getD r [] = rows[r] := by rw [List.getD_eq_getElem?_getD, gr]; rfl
    obtain ⟨ds, e1, vs, hv1, hv2⟩ := p_get hP gb
    rw [gr] at e1
    cases e1
    have hvl := Paired.length hv2
    have ga : (bs.map V.ref)[r]? = some (V.ref bs[r]) := by rw [List.getElem?_map, gb]; rfl
    refine ⟨_, pss_one (ps_expr (pe_bm PySem.F.plainAttrs_list PySem.F.slot_list_append PySem.F.type_list_append mt_append (pe_ix ix_list (pe_fld (pv 0) rfl) (pv 1) (fun _ _ => rfl)) (pa_cons (pv 2) pa_nil))), ?_⟩
    refine ⟨_, rfl, p, C, dx, _, _, rfl, hp, D.cl, D.nR, rfl, _, rfl, a, _, _, _, rfl, rfl, SqL.of ha, atI_nat ga, .inl ⟨rfl, _, SqL.of hv1⟩, _, rfl, bs[r], vs, _, rfl, rfl, hv1, by rw [hvl, ← gd]; exact small1000 (Nat.le_of_lt hz), ?_⟩
    have hm : bs[r] ∈ bs := List.getElem_mem hrb
    have hb0 := b0 _ hm
    have tt : TT H (upd H bs[r] (.lst (vs ++ [dv]))) := TT.putL hv1
    refine k _ ⟨same_put s0 hb0, p0, dx, a, bs, ?_, ?_, hn, hna, a0, b0, ?_⟩ tt
    · rw [upd_ne (ne_of hp hv1 (fun z => nomatch z))]
      exact hp
    · rw [upd_ne (fun z => hna (by rw [z]; exact hm))]
      exact ha
    · unfold addR
      rw [gd]
      exact p_upd hP hn gb (fun c ρ ne ⟨us, h1, h2⟩ => ⟨us, by rw [upd_ne ne]; exact h1, p_mono h2 fun _ _ q => q.tt tt⟩) ⟨_, upd_same, Paired.snoc (p_mono hv2 fun _ _ q => q.tt tt) (hd.tt tt)⟩
end
end Q3

set_option Elab.async false
set_option linter.all false
set_option maxRecDepth 100000
set_option maxHeartbeats 4000000
/-! Deeds.forces, Deeds.changes -/
namespace Q3
open PySem PySem.Spec PyProof.Rows L2 LamX
/-- the loop's state behind so many turns: what is taken, what stands in force -/
def fGo (ds : List Deed) : Nat → List (Key × V) × List Bool
  | 0 => ([], [])
  | j + 1 =>
    let st := fGo ds j
    let inf := !(valV st.1 (Sum.inl ((ds.length : Int) + (j : Nat) * (-1)))).isSome
    ((if inf = true then (match ds[ds.length - 1 - j]? with
      | some (.bak p) => putK st.1 (Sum.inl p) (.bl true)
      | _ => st.1) else st.1), st.2 ++ [inf])
def forces (ds : List Deed) : List Bool := (fGo ds ds.length).2.reverse
theorem fGo_len (ds : List Deed) : ∀ j, (fGo ds j).2.length = j
  | 0 => rfl
  | j + 1 => by show ((fGo ds j).2 ++ [_]).length = _; rw [List.length_append, fGo_len ds j]; rfl
theorem fGo_small (ds : List Deed) : ∀ j, (fGo ds j).1.length ≤ j
  | 0 => Nat.le_refl _
  | j + 1 => by
    have ih := fGo_small ds j
    show (if _ then _ else _ : List (Key × V)).length ≤ _
    split
    · split
      · have := length_putK (fGo ds j).1 (Sum.inl ‹Int›) (.bl true)
        omega
      · omega
    · omega
theorem forces_len (ds : List Deed) : (forces ds).length = ds.length := by unfold forces; rw [List.length_reverse, fGo_len]
def tagOf : Deed → Str
  | .chg .. => "change"
  | .bak _ => "back"
theorem deed_tag {H : Hp} {v : V} {d : Deed} (h : IsDeed H v d) : ∃ (a : Addr) (xs : List V), v = .ref a ∧ H a = some (.tup xs) ∧ xs[0]? = some (.str (tagOf d)) := by
  cases d with
  | chg m rem beh num text =>
    obtain ⟨a, t, b, bs, e1, e2, _⟩ := h
    exact ⟨a, _, e1, e2, rfl⟩
  | bak p =>
    obtain ⟨a, e1, e2⟩ := h
    exact ⟨a, _, e1, e2, rfl⟩
def isBak : Deed → Bool
  | .bak _ => true
  | _ => false
theorem tag_back (d : Deed) : decide (V.str (tagOf d) = V.str "back") = isBak d := by
  cases d
  · show decide (V.str "change" = V.str "back") = false
    decide +kernel
  · show decide (V.str "back" = V.str "back") = true
    decide +kernel
theorem tag_change (d : Deed) : decide (V.str (tagOf d) = V.str "change") = !isBak d := by
  cases d
  · show decide (V.str "change" = V.str "change") = true
    decide +kernel
  · show decide (V.str "back" = V.str "change") = false
    decide +kernel
def spForces (C : Addr) : Sp := fun vs H Q _ => ∃ (p : Addr) (rows : List (List Deed)) (r : Nat) (ds : List Deed), vs = [.ref p, .int (r : Nat)] ∧ DeedsAt C H p rows ∧ rows[r]? = some ds ∧ ds.length ≤ 1000 ∧
  ∀ (H' : Hp) (q : Addr), Same H H' → H q = none → H' q = some (.lst ((forces ds).map V.bl)) → Q (.ref q) H'
section
variable {P : Program} {w : World} {K : PySem.W.Frag} {mg : Str → Option Value} {base : Heap} {C : Addr}
theorem scDF : FnScope ["self", "replica", "row", "taken", "result", "place", "in_force"] ["self", "replica"] (defScope sDForces) := ⟨rfl, rfl, rfl, by decide +kernel, rfl, by decide +kernel, by decide +kernel⟩
theorem met_forces {f : Addr} {fd : FuncData} (F : Fun K "forces" "Deeds.forces" sDForces f fd) (M : Meth K C "forces" f) (T : Txt K mg) (D : TD K C) : Met P w K mg base 1 C "forces" (spForces C) := by
  refine ⟨f, fd, ["self", "replica"], D.cl, M, F.ok scDF (fun vs H Q E h => ?_) (fun cdv A outer s H vs Q E hr h => ?_), F.binds fun _ _ _ _ _ _ us hl => match us, hl with | [_, _], _ => rfl⟩
  · obtain ⟨p, rows, r, ds, rfl, _⟩ := h
    rfl
  · obtain ⟨p, rows, r, ds, rfl, ⟨dx, a, hp, bs, ha, hn, hna, hP⟩, hds, hz, k⟩ := h
    have nd := scDF.nd
    have hu := hu_of hr
    obtain ⟨b, gb, vs, hv1, hv2⟩ := p_get' hP hds
    have ga : (bs.map V.ref)[r]? = some (V.ref b) := by rw [List.getElem?_map, gb]; rfl
    have hvl := Paired.length hv2
    have hvz : vs.length ≤ 1000 := by omega
    refine ⟨_, pss_cons (ps_set (i := 2) nd rfl (Or.inl rfl) (pe_ix ix_list (pe_fld (pv 0) rfl) (pv 1) (fun _ _ => rfl)))
      (pss_cons (ps_set (i := 3) nd rfl (Or.inl rfl) pe_dnewK)
      (pss_cons (ps_set (i := 4) nd rfl (Or.inl rfl) (pe_lst pa_nil))
      (pss_cons (ps_for PassesOwn.never rfl (pi_range3 rfl T.range (pa_cons (pe_callB call_len_seq (by rfl) T.len PySem.boot_len (pa_cons (pv 2) pa_nil)) (pa_cons pe_int (pa_cons (pe_un un_neg pe_int) pa_nil)))) (pg_name (i := 5) nd rfl (Or.inl rfl))
        (pss_cons (ps_set (i := 6) nd rfl (Or.inl rfl) (pe_cmp (pc_dnotin hu (pv 5) (pv 3)) rfl))
        (pss_cons (ps_if (PW.pt (pw_and (pt_val (pv 6)) (pw_and1 (pt_cmpR op_eq (pe_ix ix_tup (pe_ix ix_list (pv 2) (pe_op op_sub (pv 5) pe_int) (fun _ _ => rfl)) pe_int (fun _ _ => rfl)) pe_str (nomark _)))))
            (pss_one (ps_dput hu (pv 3) (pe_ix ix_tup (pe_ix ix_list (pv 2) (pe_op op_sub (pv 5) pe_int) (fun _ _ => rfl)) pe_int (fun _ _ => rfl)) pe_bl rfl)) pss_nil)
        (pss_one (ps_expr (pe_bm PySem.F.plainAttrs_list PySem.F.slot_list_append PySem.F.type_list_append mt_append (pv 4) (pa_cons (pv 6) pa_nil)))))))
      (pss_one (ps_ret (pe_revL (pv 4))))))), ?_⟩
    refine ⟨_, rfl, p, C, dx, _, _, rfl, hp, D.cl, D.nR, rfl, _, rfl, a, _, _, _, rfl, rfl, SqL.of ha, atI_nat ga, fun dt hdt => ?_⟩
    have s1 := Same.new (o := .dK []) hdt
    refine ⟨Nat.zero_le _, fun l hl => ?_⟩
    have s2 := s1.trans (Same.new (o := .lst []) hl)
    have ndl : dt ≠ l := ne_of_none upd_same hl
    refine ⟨_, rfl, b, _, rfl, .inl (SqL.of (s2 _ _ hv1)), 1, rfl, (vs.length : Int), 0, -1, vs.length, rfl, ?_, ?_⟩
    · have z := RgC.neg (i := (vs.length : Int)) (j := 0) (by omega) (by omega) (by decide) (by decide)
      have e : ((vs.length : Int) - 0).toNat = vs.length := by omega
      rw [e] at z
      exact z
    refine for_rangeC (lo := (vs.length : Int)) (c := -1) (n := vs.length) (fun j σ H1 => ∃ (w5 w6 : Option V), σ = [some (.ref p), some (.int (r : Nat)), some (.ref b), some (.ref dt), some (.ref l), w5, w6] ∧ Same H H1 ∧ H1 dt = some (.dK (fGo ds j).1) ∧ H1 l = some (.lst ((fGo ds j).2.map V.bl))) ?_ ?_ ?_
    · exact ⟨none, none, rfl, s2, by rw [upd_ne ndl, upd_same]; rfl, upd_same⟩
    · rintro j σ H1 hj ⟨w5, w6, rfl, s3, hd1, hl1⟩
      have hjd : j < ds.length := by omega
      have ev : vs.length = ds.length := hvl
      have ix : ((vs.length : Int) + (j : Nat) * (-1) - 1) = ((vs.length - 1 - j : Nat) : Int) := by omega
      have gd : ds[ds.length - 1 - j]? = some (ds[ds.length - 1 - j]'(by omega)) := List.getElem?_eq_getElem (by omega)
      obtain ⟨dv, gv, hdv⟩ := p_get' hv2 gd
      generalize (ds[ds.length - 1 - j]'(by omega)) = d at gd hdv
      rw [← ev] at gv
      refine ⟨_, rfl, _, rfl, dt, _, rfl, DGet.k (k := Sum.inl ((vs.length : Int) + (j : Nat) * (-1))) hd1, ?_⟩
      have hsz := fGo_small ds j
      have hsl := fGo_len ds j
      have e2 : (fGo ds (j + 1)).2 = (fGo ds j).2 ++ [!(valV (fGo ds j).1 (Sum.inl ((vs.length : Int) + (j : Nat) * (-1)))).isSome] := by rw [ev]; rfl
      have e1 : (fGo ds (j + 1)).1 = (if (!(valV (fGo ds j).1 (Sum.inl ((vs.length : Int) + (j : Nat) * (-1)))).isSome) = true then (match ds[ds.length - 1 - j]? with
          | some (.bak p) => putK (fGo ds j).1 (Sum.inl p) (.bl true)
          | _ => (fGo ds j).1) else (fGo ds j).1) := by rw [ev]; rfl
      generalize hinf : (!(valV (fGo ds j).1 (Sum.inl ((vs.length : Int) + (j : Nat) * (-1)))).isSome) = inf at e1 e2
      refine ⟨_, rfl, inf, (by rw [← hinf]), ?_⟩
      cases inf with
      | false =>
        refine iteF (iteF ?_)
        exact ⟨_, rfl, .inl ⟨rfl, _, SqL.of hl1⟩, _, rfl, l, _, _, rfl, rfl, hl1, (by rw [List.length_map, hsl]; exact small1000 (by omega)), _, _, rfl, same_put s3 (s1.free hl), (by rw [upd_ne ndl]; exact (e1 ▸ hd1)), (by rw [upd_same, e2, List.map_append]; rfl)⟩
      | true =>
        refine iteT ?_
        obtain ⟨da, dxs, rfl, hda, hd0⟩ := deed_tag hdv
        have gv3 : atI vs ((vs.length : Int) + (j : Nat) * (-1) - 1) = some (V.ref da) := by rw [ix]; exact atI_nat gv
        refine ⟨_, rfl, _, rfl, _, _, rfl, rfl, b, vs, _, _, rfl, rfl, SqL.of (s3 _ _ hv1), gv3, da, dxs, _, _, rfl, rfl, SqT.of (s3 _ _ hda), atI_nat (j := 0) hd0, ?_⟩
        refine ⟨rfl, _, rfl, ?_⟩
        rw [tag_back]
        cases d with
        | chg m rem beh num text =>
          refine iteF ?_
          rw [if_pos rfl, gd] at e1
          exact ⟨_, rfl, .inl ⟨rfl, _, SqL.of hl1⟩, _, rfl, l, _, _, rfl, rfl, hl1, (by rw [List.length_map, hsl]; exact small1000 (by omega)), _, _, rfl, same_put s3 (s1.free hl), (by rw [upd_ne ndl, e1]; exact hd1), (by rw [upd_same, e2, List.map_append]; rfl)⟩
        | bak pl =>
          refine iteT ?_
          rw [if_pos rfl, gd] at e1
          have e1 : (fGo ds (j + 1)).1 = putK (fGo ds j).1 (Sum.inl pl) (.bl true) := e1
          obtain ⟨da', ea, hda'⟩ := hdv
          cases ea
          refine ⟨_, rfl, _, rfl, _, rfl, _, _, rfl, rfl, b, vs, _, _, rfl, rfl, SqL.of (s3 _ _ hv1), gv3, da, _, _, _, rfl, rfl, SqT.of (s3 _ _ hda'), atI_nat (j := 1) rfl, dt, _, rfl, DPut.k (k := Sum.inl pl) hd1 (small1000 (by omega)), ?_⟩
          have s4 := same_put (o' := .dK (putK (fGo ds j).1 (Sum.inl pl) (.bl true))) s3 hdt
          have hl2 : upd H1 dt (.dK (putK (fGo ds j).1 (Sum.inl pl) (.bl true))) l = some (.lst ((fGo ds j).2.map V.bl)) := by rw [upd_ne ndl.symm]; exact hl1
          exact ⟨_, rfl, .inl ⟨rfl, _, SqL.of hl2⟩, _, rfl, l, _, _, rfl, rfl, hl2, (by rw [List.length_map, hsl]; exact small1000 (by omega)), _, _, rfl, same_put s4 (s1.free hl), (by rw [upd_ne ndl, upd_same, e1]), (by rw [upd_same, e2, List.map_append]; rfl)⟩
    · rintro σ H1 ⟨w5, w6, rfl, s3, hd1, hl1⟩
      refine ⟨_, rfl, l, _, rfl, SqL.of hl1, fun q hq => k _ q (s3.trans (Same.new hq)) (s3.free hq) ?_⟩
      rw [upd_same, hvl, ← List.map_reverse]
      rfl
end
end Q3

set_option Elab.async false
set_option linter.all false
set_option maxRecDepth 100000
set_option maxHeartbeats 4000000
/-! Deeds.changes -/
namespace Q3
open PySem PySem.Spec PyProof.Rows L2 LamX
def isChg (m : Str) : Deed → Bool
  | .chg m' _ _ _ _ => decide (m' = m)
  | _ => false
theorem dec_str (a b : Str) : decide (V.str a = V.str b) = decide (a = b) := by
  by_cases e : a = b
  · subst e; simp
  · rw [decide_eq_false e, decide_eq_false]
    intro z
    cases z
    exact e rfl
/-- of a row with its forces: the changes of a module -/
def pick (m : Str) (r : Nat) (l : List (Deed × Bool)) : List (Nat × Deed × Bool) := (l.filter fun q => isChg m q.1).map fun q => (r, q.1, q.2)
def chTo (rows : List (List Deed)) (m : Str) (n : Nat) : List (Nat × Deed × Bool) := (List.range n).flatMap fun r => pick m r ((rows.getD r []).zip (forces (rows.getD r [])))
abbrev chOf (rows : List (List Deed)) (m : Str) : List (Nat × Deed × Bool) := chTo rows m 8
theorem chTo_succ (rows : List (List Deed)) (m : Str) (n : Nat) : chTo rows m (n + 1) = chTo rows m n ++ pick m n ((rows.getD n []).zip (forces (rows.getD n []))) := by
  unfold chTo
  rw [List.range_succ, List.flatMap_append]
  simp
theorem pick_le (m : Str) (r : Nat) (l : List (Deed × Bool)) : (pick m r l).length ≤ l.length := by
  unfold pick
  rw [List.length_map]
  exact List.length_filter_le _ _
theorem zip_forces_len (ds : List Deed) : (ds.zip (forces ds)).length = ds.length := by rw [List.length_zip, forces_len]; omega
theorem chTo_le {rows : List (List Deed)} {m : Str} (h : ∀ ds ∈ rows, ds.length ≤ 100) : ∀ n, (chTo rows m n).length ≤ n * 100
  | 0 => by simp [chTo]
  | n + 1 => by
    have ih := chTo_le (m := m) h n
    have h1 := pick_le m n ((rows.getD n []).zip (forces (rows.getD n [])))
    rw [zip_forces_len] at h1
    have h2 : (rows.getD n []).length ≤ 100 := by
      rw [List.getD_eq_getElem?_getD]
      cases q : rows[n]? with
      | none => exact Nat.zero_le _
      | some ds => exact h ds (List.mem_of_getElem? q)
    rw [chTo_succ, List.length_append]
    omega
theorem pick_snoc (m : Str) (r : Nat) (l : List (Deed × Bool)) (q : Deed × Bool) : pick m r (l ++ [q]) = pick m r l ++ (if isChg m q.1 = true then [(r, q.1, q.2)] else []) := by
  unfold pick
  rw [List.filter_append, List.map_append, List.filter_cons, List.filter_nil]
  split <;> rfl
def IsCh (H : Hp) (v : V) (e : Nat × Deed × Bool) : Prop := ∃ a dv, v = .ref a ∧ H a = some (.tup [.int (e.1 : Nat), dv, .bl e.2.2]) ∧ IsDeed H dv e.2.1
theorem IsCh.tt {H H' : Hp} {v : V} {e : Nat × Deed × Bool} (h : IsCh H v e) (t : TT H H') : IsCh H' v e := by
  obtain ⟨a, dv, h1, h2, h3⟩ := h
  exact ⟨a, dv, h1, t _ _ h2, h3.tt t⟩
def spChanges (C : Addr) : Sp := fun vs H Q _ => ∃ (p : Addr) (rows : List (List Deed)) (m : Str), vs = [.ref p, .str m] ∧ DeedsAt C H p rows ∧ rows.length = 8 ∧ (∀ ds ∈ rows, ds.length ≤ 100) ∧
  ∀ (H' : Hp) (q : Addr) (us : List V), Same H H' → H q = none → H' q = some (.lst us) → Paired (IsCh H') us (chOf rows m) → Q (.ref q) H'
section
variable {P : Program} {w : World} {K : PySem.W.Frag} {mg : Str → Option Value} {base : Heap} {C : Addr}
theorem scDC : FnScope ["self", "module", "result", "replica", "deed", "in_force"] ["self", "module"] (defScope sDChanges) := ⟨rfl, rfl, rfl, by decide +kernel, rfl, by decide +kernel, by decide +kernel⟩
theorem met_changes {f : Addr} {fd : FuncData} (F : Fun K "changes" "Deeds.changes" sDChanges f fd) (M : Meth K C "changes" f) (T : Txt K mg) (D : TD K C) (G : Met P w K mg base 1 C "forces" (spForces C)) : Met P w K mg base 2 C "changes" (spChanges C) := by
  refine ⟨f, fd, ["self", "module"], D.cl, M, F.ok scDC (fun vs H Q E h => ?_) (fun cdv A outer s H vs Q E hr h => ?_), F.binds fun _ _ _ _ _ _ us hl => match us, hl with | [_, _], _ => rfl⟩
  · obtain ⟨p, rows, m, rfl, _⟩ := h
    rfl
  · obtain ⟨p, rows, m, rfl, hDA, h8, hz, k⟩ := h
    obtain ⟨dx, a, hp, hRA⟩ := id hDA
    have nd := scDC.nd
    obtain ⟨tr, hrep⟩ := T.rep
    have noF : ([("rows", V.ref a)] : List (Str × V)).lookup ("forces" : Str) = none := by
      rw [List.lookup_cons]
      have : (("forces" : Str) == ("rows" : Str)) = false := by decide +kernel
      rw [this]
      rfl
    refine ⟨_, pss_cons (ps_set (i := 2) nd rfl (Or.inl rfl) (pe_lst pa_nil))
      (pss_cons (ps_for PassesOwn.never rfl (pi_range1 rfl T.range (pa_cons (pe_glob (v := .int 8) rfl hrep ⟨_, rfl⟩) pa_nil)) (pg_name (i := 3) nd rfl (Or.inl rfl))
        (pss_one (ps_for PassesOwn.never rfl (pi_zip (by rfl) T.zip (pa_cons (pe_ix ix_list (pe_fld (pv 0) rfl) (pv 3) (fun _ _ => rfl)) (pa_cons (pe_mm G hr (by decide) (pv 0) (pa_cons (pv 3) pa_nil)) pa_nil)))
            (pg_tup rfl (pgs_cons (pg_name (i := 4) nd rfl (.inl rfl)) (pgs_cons (pg_name (i := 5) nd rfl (.inl rfl)) pgs_nil)))
          (pss_one (ps_if (PW.pt (pw_and (pt_cmpR op_eq (pe_ix ix_tup (pv 4) pe_int (fun _ _ => rfl)) pe_str (nomark _)) (pw_and1 (pt_cmpR op_eq (pe_ix ix_tup (pv 4) pe_int (fun _ _ => rfl)) (pv 1) (nomark _)))))
            (pss_one (ps_expr (pe_bm PySem.F.plainAttrs_list PySem.F.slot_list_append PySem.F.type_list_append mt_append (pv 2) (pa_cons (pe_tup (pa_cons (pv 3) (pa_cons (pv 4) (pa_cons (pv 5) pa_nil)))) pa_nil)))) pss_nil)))))
      (pss_one (ps_ret (pv 2)))), ?_⟩
    refine ⟨Nat.zero_le _, fun l hl => ?_⟩
    have s0 := Same.new (o := .lst []) hl
    refine ⟨8, rfl, by decide, by decide, ?_⟩
    refine for_range (lo := 0) (n := 8) (fun i σ H1 => ∃ (w3 w4 w5 : Option V) (us : List V), σ = [some (.ref p), some (.str m), some (.ref l), w3, w4, w5] ∧ Same H H1 ∧ H1 l = some (.lst us) ∧ Paired (IsCh H1) us (chTo rows m i)) ?_ ?_ ?_
    · exact ⟨none, none, none, [], rfl, s0, upd_same, .nil⟩
    · rintro i σ H1 hi ⟨w3, w4, w5, us, rfl, s1, hL, hP⟩
      have gr : rows[i]? = some rows[i] := List.getElem?_eq_getElem (by omega)
      have gd : rows.getD i [] = rows[i] := by rw [List.getD_eq_getElem?_getD, gr]; rfl
      have hzr : (rows[i]).length ≤ 100 := hz _ (List.getElem_mem _)
      obtain ⟨bs, ha, hn, hna, hRP⟩ := id hRA
      obtain ⟨b, gb, vs, hv1, hv2⟩ := p_get' hRP gr
      have ga : (bs.map V.ref)[i]? = some (V.ref b) := by rw [List.getElem?_map, gb]; rfl
      have hp1 := s1 _ _ hp
      have hvl := Paired.length hv2
      have e0 : (0 : Int) + (i : Nat) = ((i : Nat) : Int) := by omega
      rw [e0]
      refine ⟨_, rfl, p, C, dx, _, _, rfl, hp1, D.cl, D.nR, rfl, _, rfl, a, _, _, _, rfl, rfl, SqL.of (s1 _ _ ha), atI_nat ga, ?_⟩
      refine ⟨_, rfl, p, dx, _, rfl, hp1, noF, _, rfl, p, rows, i, rows[i], rfl, ⟨dx, a, hp1, hRA.same s1⟩, gr, by omega, fun H2 q s2 hq hq2 => ?_⟩
      refine ⟨b, q, vs, _, rfl, SqL.of (s2 _ _ (s1 _ _ hv1)), SqL.of hq2, ?_⟩
      refine for_it (walk_zip (xs := vs) (ys := (forces rows[i]).map V.bl) (n := vs.length) (by rw [List.length_map, forces_len, hvl]; omega)) (fun j σ H3 => ∃ (w4 w5 : Option V) (us : List V), σ = [some (.ref p), some (.str m), some (.ref l), some (.int (i : Nat)), w4, w5] ∧ Same H H3 ∧ H3 b = some (.lst vs) ∧ H3 q = some (.lst ((forces rows[i]).map V.bl)) ∧ H3 l = some (.lst us) ∧
          Paired (IsCh H3) us (chTo rows m i ++ pick m i ((rows[i].zip (forces rows[i])).take j))) ?_ ?_ ?_ ?_
      · exact ⟨w4, w5, us, rfl, s1.trans s2, s2 _ _ (s1 _ _ hv1), hq2, s2 _ _ hL, by rw [List.take_zero]; exact (by simpa [pick] using p_mono hP fun _ _ z => z.tt (TT.of s2))⟩
      · rintro j σ H3 _ ⟨w4, w5, us, rfl, s3, hb3, hq3, hL3, hP3⟩
        exact ⟨SqL.of hb3, SqL.of hq3⟩
      · rintro j x σ H3 H4 hj ⟨w4, w5, us, rfl, s3, hb3, hq3, hL3, hP3⟩ ⟨tp, dv, fv, rfl, htp, rfl, gv, gf⟩
        have s4 := Same.new (o := .tup [dv, fv]) htp
        have hjd : j < rows[i].length := by omega
        have gds : rows[i][j]? = some (rows[i][j]) := List.getElem?_eq_getElem hjd
        obtain ⟨dv', gv', hdv⟩ := p_get' hv2 gds
        have gv : vs[j]? = some dv := gv
        have gf : ((forces rows[i]).map V.bl)[j]? = some fv := gf
        rw [gv] at gv'
        cases gv'
        have gfs : (forces rows[i])[j]? = some ((forces rows[i])[j]'(by rw [forces_len]; exact hjd)) := List.getElem?_eq_getElem _
        rw [List.getElem?_map, gfs] at gf
        cases gf
        have gz : (rows[i].zip (forces rows[i]))[j]? = some (rows[i][j], (forces rows[i])[j]'(by rw [forces_len]; exact hjd)) := by
          rw [List.getElem?_zip_eq_some]
          exact ⟨gds, gfs⟩
        generalize (forces rows[i])[j]'(by rw [forces_len]; exact hjd) = f at gz gfs s4 ⊢
        generalize rows[i][j] = d at gz gds hdv
        have hdv4 : IsDeed (upd H3 tp (.tup [dv, .bl f])) dv d := (hdv.tt (TT.of s3)).tt (TT.of s4)
        obtain ⟨da, dxs, rfl, hda, hd0⟩ := deed_tag hdv4
        have eP := take_snoc gz
        refine ⟨tp, _, rfl, SqT.of upd_same, rfl, _, _, rfl, _, _, rfl, rfl, ?_⟩
        refine ⟨_, rfl, da, dxs, _, _, rfl, rfl, SqT.of hda, atI_nat (j := 0) hd0, rfl, _, rfl, ?_⟩
        rw [tag_change]
        have hL4 := s4 _ _ hL3
        have P4 : Paired (IsCh (upd H3 tp (.tup [.ref da, .bl f]))) us (chTo rows m i ++ pick m i ((rows[i].zip (forces rows[i])).take j)) := p_mono hP3 fun _ _ z => z.tt (TT.of s4)
        have eN := pick_snoc m i ((rows[i].zip (forces rows[i])).take j) (d, f)
        rw [← eP] at eN
        have no : isChg m d = false → Paired (IsCh (upd H3 tp (.tup [.ref da, .bl f]))) us (chTo rows m i ++ pick m i ((rows[i].zip (forces rows[i])).take (j + 1))) := fun e => by
          have e : isChg m (d, f).1 = false := e
          rw [eN, e, if_neg Bool.false_ne_true, List.append_nil]
          exact P4
        cases d with
        | bak pl => exact iteF (iteF ⟨_, _, us, rfl, s3.trans s4, s4 _ _ hb3, s4 _ _ hq3, hL4, no rfl⟩)
        | chg m' rem beh num text =>
          refine iteT ?_
          obtain ⟨da', tt, b', bs', ea, hda', _⟩ := id hdv4
          cases ea
          refine ⟨_, rfl, da, _, _, _, rfl, rfl, SqT.of hda', atI_nat (j := 1) rfl, _, rfl, rfl, _, rfl, ?_⟩
          rw [dec_str]
          by_cases em : m' = m
          · rw [decide_eq_true em]
            refine iteT ?_
            refine ⟨_, rfl, .inl ⟨rfl, _, SqL.of hL4⟩, _, rfl, _, rfl, _, rfl, (by show 3 ≤ sizeLine; decide), fun r1 hr1 => ?_⟩
            have s5 := Same.new (o := .tup [.int (i : Nat), .ref da, .bl f]) hr1
            have hL5 := s5 _ _ hL4
            have hlen : us.length < sizeLine := by
              have z := Paired.length hP3
              rw [List.length_append] at z
              have z1 := chTo_le (rows := rows) (m := m) hz i
              have z2 := pick_le m i ((rows[i].zip (forces rows[i])).take j)
              rw [List.length_take] at z2
              refine small1000 ?_
              omega
            have yes : isChg m (Deed.chg m' rem beh num text, f).1 = true := decide_eq_true em
            rw [yes, if_pos rfl] at eN
            refine ⟨l, us, _, rfl, rfl, hL5, hlen, ?_⟩
            have tp5 : TT (upd (upd H3 tp (.tup [.ref da, .bl f])) r1 (.tup [.int (i : Nat), .ref da, .bl f])) (upd (upd (upd H3 tp (.tup [.ref da, .bl f])) r1 (.tup [.int (i : Nat), .ref da, .bl f])) l (.lst (us ++ [.ref r1]))) := TT.putL hL5
            refine ⟨_, _, us ++ [.ref r1], rfl, same_put ((s3.trans s4).trans s5) hl, ?_, ?_, upd_same, ?_⟩
            · rw [upd_ne (ne_of_none hv1 hl)]
              exact s5 _ _ (s4 _ _ hb3)
            · rw [upd_ne (ne_of_none hL hq).symm]
              exact s5 _ _ (s4 _ _ hq3)
            · rw [eN, ← List.append_assoc]
              exact Paired.snoc (p_mono P4 fun _ _ z => (z.tt (TT.of s5)).tt tp5) ⟨r1, .ref da, rfl, tp5 _ _ upd_same, (hdv4.tt (TT.of s5)).tt tp5⟩
          · rw [decide_eq_false em]
            exact iteF ⟨_, _, us, rfl, s3.trans s4, s4 _ _ hb3, s4 _ _ hq3, hL4, no (decide_eq_false em)⟩
      · rintro σ H3 ⟨w4, w5, us, rfl, s3, hb3, hq3, hL3, hP3⟩
        refine ⟨_, _, _, us, rfl, s3, hL3, ?_⟩
        rw [chTo_succ, gd]
        rw [List.take_of_length_le (by rw [zip_forces_len, hvl]; exact Nat.le_refl _)] at hP3
        exact hP3
    · rintro σ H1 ⟨w3, w4, w5, us, rfl, s1, hL, hP⟩
      exact ⟨_, rfl, k H1 l us s1 hl hL hP⟩
end
end Q3

set_option Elab.async false
set_option linter.all false
set_option maxRecDepth 100000
set_option maxHeartbeats 4000000
/-! the row of a module: its mirror -/
namespace Q3
open PySem PySem.Spec PyProof.Rows L2 LamX
def entsOf (r : Int) (f : Bool) : Deed → List Ent
  | .chg _ _ beh num text => (insE r num beh text.cps.toList).map fun z => ⟨z.1, z.2.1, z.2.2, f⟩
  | _ => []
def fndL (l : List (Nat × Deed × Bool)) : List Ent := l.flatMap fun c => entsOf (c.1 : Nat) c.2.2 c.2.1
def remOf : Deed → List Mark
  | .chg _ rem _ _ _ => rem
  | _ => []
def remL (l : List (Nat × Deed × Bool)) : List Mark := l.foldl (fun S c => if c.2.2 = true then (setM (remOf c.2.1)).foldl addM S else S) []
abbrev eLe (a b : Ent) : Bool := mleB a.mark b.mark
abbrev srtE (l : List Ent) : List Ent := l.mergeSort eLe
def seenB (R : List Mark) (e : Ent) : Bool := e.inf && !decide (e.mark ∈ R)
/-- the mark's character, whether it is seen -/
def atMark (S : List Ent) (R : List Mark) (m : Mark) : Mark × Nat × Bool := match S.find? fun e => decide (e.mark = m) with
  | some e => (m, e.code, seenB R e)
  | none => (m, 0, false)
def rowR (rows : List (List Deed)) (m : Str) : List (Mark × Nat × Bool) := (build (srtE (fndL (chOf rows m)))).map (atMark (srtE (fndL (chOf rows m))) (remL (chOf rows m)))
theorem rowR_marks (rows : List (List Deed)) (m : Str) : (rowR rows m).map (·.1) = build (srtE (fndL (chOf rows m))) := by
  unfold rowR
  rw [List.map_map]
  have : ((fun z : Mark × Nat × Bool => z.1) ∘ atMark (srtE (fndL (chOf rows m))) (remL (chOf rows m))) = id := by
    funext x
    show (atMark _ _ x).1 = x
    unfold atMark
    split <;> rfl
  rw [this, List.map_id]
/-- bounds of a deed -/
def DB : Deed → Prop
  | .chg m rem _ _ text => rem.length ≤ 10 ∧ text.cps.size ≤ 10 ∧ (∀ m ∈ rem, Small m) ∧ PyData.strOk m = true ∧ PyData.strOk text = true
  | _ => True
/-- bounds of rows -/
structure WB (rows : List (List Deed)) : Prop where
  len : rows.length = 8
  row : ∀ ds ∈ rows, ds.length ≤ 100
  deed : ∀ ds ∈ rows, ∀ d ∈ ds, DB d
theorem pick_mem {m : Str} {r : Nat} {l : List (Deed × Bool)} {c : Nat × Deed × Bool} (h : c ∈ pick m r l) : c.1 = r ∧ (c.2.1, c.2.2) ∈ l ∧ isChg m c.2.1 = true := by
  unfold pick at h
  obtain ⟨q, h1, h2⟩ := List.mem_map.mp h
  obtain ⟨h3, h4⟩ := List.mem_filter.mp h1
  subst h2
  exact ⟨rfl, h3, h4⟩
theorem chTo_mem {rows : List (List Deed)} {m : Str} {n : Nat} {c : Nat × Deed × Bool} (h : c ∈ chTo rows m n) : c.1 < n ∧ c.2.1 ∈ rows.getD c.1 [] ∧ isChg m c.2.1 = true := by
  unfold chTo at h
  obtain ⟨r, h1, h2⟩ := List.mem_flatMap.mp h
  obtain ⟨h3, h4, h5⟩ := pick_mem h2
  rw [h3]
  exact ⟨List.mem_range.mp h1, (List.of_mem_zip h4).1, h5⟩
theorem isChg_shape {m : Str} {d : Deed} (h : isChg m d = true) : ∃ rem beh num text, d = .chg m rem beh num text := by
  cases d with
  | chg m' rem beh num text =>
    have : m' = m := of_decide_eq_true h
    subst this
    exact ⟨rem, beh, num, text, rfl⟩
  | bak p => cases h
theorem getD_mem {rows : List (List Deed)} {r : Nat} {d : Deed} (h : d ∈ rows.getD r []) : rows.getD r [] ∈ rows := by
  rw [List.getD_eq_getElem?_getD] at h ⊢
  cases q : rows[r]? with
  | none => rw [q] at h; cases h
  | some ds => exact List.mem_of_getElem? q
theorem WB.ch {rows : List (List Deed)} (b : WB rows) {m : Str} {c : Nat × Deed × Bool} (h : c ∈ chOf rows m) : DB c.2.1 ∧ c.1 < 8 := by
  obtain ⟨h1, h2, _⟩ := chTo_mem h
  exact ⟨b.deed _ (getD_mem h2) _ h2, h1⟩
theorem entsOf_len {r : Int} {f : Bool} {d : Deed} (h : DB d) : (entsOf r f d).length ≤ 10 := by
  cases d with
  | chg m rem beh num text =>
    show ((insE r num beh text.cps.toList).map _).length ≤ 10
    rw [List.length_map, insE_len, Array.length_toList]
    exact h.2.1
  | bak p => exact Nat.zero_le _
theorem fndL_len {l : List (Nat × Deed × Bool)} (h : ∀ c ∈ l, DB c.2.1) : (fndL l).length ≤ l.length * 10 := by
  induction l with
  | nil => exact Nat.zero_le _
  | cons c r ih =>
    have h1 := entsOf_len (r := (c.1 : Nat)) (f := c.2.2) (h c List.mem_cons_self)
    have h2 := ih fun x hx => h x (List.mem_cons_of_mem _ hx)
    show (entsOf (c.1 : Nat) c.2.2 c.2.1 ++ fndL r).length ≤ _
    rw [List.length_append, List.length_cons]
    omega
theorem fndL_app (a b : List (Nat × Deed × Bool)) : fndL (a ++ b) = fndL a ++ fndL b := by unfold fndL; rw [List.flatMap_append]
theorem remL_snoc (l : List (Nat × Deed × Bool)) (c : Nat × Deed × Bool) : remL (l ++ [c]) = if c.2.2 = true then (setM (remOf c.2.1)).foldl addM (remL l) else remL l := by
  unfold remL; rw [List.foldl_append]; rfl
theorem foldM_len (R : List Mark) : ∀ S : List Mark, (R.foldl addM S).length ≤ S.length + R.length := by
  induction R with
  | nil => intro S; simp
  | cons m r ih =>
    intro S
    have := ih (addM S m)
    have := addM_len S m
    simp only [List.foldl_cons, List.length_cons]
    omega
theorem remL_len (l : List (Nat × Deed × Bool)) (h : ∀ c ∈ l, DB c.2.1) : (remL l).length ≤ l.length * 10 := by
  have key : ∀ (R P : List (Nat × Deed × Bool)), (∀ c ∈ R, DB c.2.1) → (remL P).length ≤ P.length * 10 → (remL (P ++ R)).length ≤ (P ++ R).length * 10 := by
    intro R
    induction R with
    | nil => intro P _ hp; simpa using hp
    | cons c r ih =>
      intro P hR hp
      have e : P ++ c :: r = (P ++ [c]) ++ r := by simp
      rw [e]
      refine ih _ (fun x hx => hR x (List.mem_cons_of_mem _ hx)) ?_
      rw [remL_snoc, List.length_append]
      split
      · have h1 := foldM_len (setM (remOf c.2.1)) (remL P)
        have h2 := setM_len (remOf c.2.1)
        have h3 : (remOf c.2.1).length ≤ 10 := by
          have := hR c List.mem_cons_self
          revert this
          cases c.2.1 with
          | chg m rem beh num text => exact fun h => h.1
          | bak p => exact fun _ => Nat.zero_le _
        simp only [List.length_cons, List.length_nil]
        omega
      · simp only [List.length_cons, List.length_nil]
        omega
  exact key l [] h (Nat.zero_le _)
def IsFd (H : Hp) (v : V) (e : Ent) : Prop := ∃ a x y, v = .ref a ∧ H a = some (.tup [x, y, .str ⟨#[e.code]⟩, .bl e.inf]) ∧ IsMk H x e.mark ∧ IsOM H y e.beh
theorem IsFd.tt {H H' : Hp} {v : V} {e : Ent} (h : IsFd H v e) (t : TT H H') : IsFd H' v e := by
  obtain ⟨a, x, y, h1, h2, h3, h4⟩ := h
  exact ⟨a, x, y, h1, t _ _ h2, h3.tt t, h4.tt t⟩
def IsRes (H : Hp) (v : V) (e : Mark × Nat × Bool) : Prop := ∃ a x, v = .ref a ∧ H a = some (.tup [x, .str ⟨#[e.2.1]⟩, .bl e.2.2]) ∧ IsMk H x e.1
theorem IsRes.tt {H H' : Hp} {v : V} {e : Mark × Nat × Bool} (h : IsRes H v e) (t : TT H H') : IsRes H' v e := by
  obtain ⟨a, x, h1, h2, h3⟩ := h
  exact ⟨a, x, h1, t _ _ h2, h3.tt t⟩
/-- the items of a list with their addresses -/
theorem with_addr {H : Hp} : ∀ {vs : List V} {es : List Ent}, Paired (IsFd H) vs es → ∃ zs : List (Addr × Ent), vs = zs.map (fun z => V.ref z.1) ∧ es = zs.map (·.2) ∧ ∀ z ∈ zs, IsFd H (.ref z.1) z.2
  | _, _, .nil => ⟨[], rfl, rfl, fun _ h => nomatch h⟩
  | _, _, .cons h t => by
    obtain ⟨zs, h1, h2, h3⟩ := with_addr t
    obtain ⟨a, x, y, rfl, r⟩ := h
    refine ⟨(a, _) :: zs, by rw [h1]; rfl, by rw [h2]; rfl, fun z hz => ?_⟩
    rcases List.mem_cons.mp hz with e | hz
    · rw [e]; exact ⟨a, x, y, rfl, r⟩
    · exact h3 z hz
theorem paired_addr {H : Hp} : ∀ zs : List (Addr × Ent), (∀ z ∈ zs, IsFd H (.ref z.1) z.2) → Paired (IsFd H) (zs.map fun z => V.ref z.1) (zs.map (·.2))
  | [], _ => .nil
  | z :: r, h => .cons (h z List.mem_cons_self) (paired_addr r fun x hx => h x (List.mem_cons_of_mem _ hx))
/-- sorted keeps the pairing -/
theorem sort_addr {H : Hp} {zs : List (Addr × Ent)} (h : ∀ z ∈ zs, IsFd H (.ref z.1) z.2) :
    Paired (IsFd H) (((zs.map fun z => (z.1, z.2.mark.1, z.2.mark.2)).mergeSort fun (x y : Addr × Int × Int) => mleB x.2 y.2).map fun e => V.ref e.1) (srtE (zs.map (·.2))) := by
  have e1 : (zs.mergeSort fun a b => eLe a.2 b.2).map (fun z => (z.1, z.2.mark.1, z.2.mark.2)) = (zs.map fun z => (z.1, z.2.mark.1, z.2.mark.2)).mergeSort fun (x y : Addr × Int × Int) => mleB x.2 y.2 := List.map_mergeSort fun a _ b _ => rfl
  have e2 : (zs.mergeSort fun a b => eLe a.2 b.2).map (·.2) = srtE (zs.map (·.2)) := List.map_mergeSort fun a _ b _ => rfl
  rw [← e1, ← e2, List.map_map]
  exact paired_addr _ fun z hz => h z (List.mem_mergeSort.mp hz)
/-! marks as data -/
abbrev mkD (m : Mark) : PyData := .tuple [.int m.1, .int m.2]
theorem mkD_eqv (a b : Mark) : PyData.eqv (mkD a) (mkD b) = decide (a = b) := by
  obtain ⟨a1, a2⟩ := a
  obtain ⟨b1, b2⟩ := b
  have e : PyData.eqv (mkD (a1, a2)) (mkD (b1, b2)) = ((a1 == b1) && ((a2 == b2) && true)) := by simp only [mkD, PyData.eqv, PyData.eqvAll]
  rw [e]
  by_cases h1 : a1 = b1
  · by_cases h2 : a2 = b2
    · subst h1 h2; simp
    · simp [h2]
  · simp [h1]
theorem mkD_lay (m : Mark) : (mkD m).canLay0 = true := by simp [mkD, PyData.canLay0, PyData.canLayAll0]
theorem mkDs_lay : ∀ ms : List Mark, PyData.canLayAll0 (ms.map mkD) = true
  | [] => by simp [PyData.canLayAll0]
  | m :: ms => by simp only [List.map_cons, PyData.canLayAll0, mkD_lay m, mkDs_lay ms, Bool.and_self]
theorem mkD_depth (m : Mark) : (mkD m).depth = 1 := by simp [mkD, PyData.depth, PyData.depthAll]
theorem mkDs_depth : ∀ ms : List Mark, PyData.depthAll (ms.map mkD) ≤ 1
  | [] => by simp [PyData.depthAll]
  | m :: ms => by
    have h1 := mkDs_depth ms
    have h2 := mkD_depth m
    simp only [List.map_cons, PyData.depthAll]
    omega
theorem mkD_shaped (m : Mark) : SeqAt.shaped (mkD m) = true := by
  show ((mkD m).canLay0 && decide ((mkD m).depth ≤ 64)) = true
  rw [mkD_lay, mkD_depth]
  rfl
theorem mkDs_shaped (ms : List Mark) : SeqAt.shaped (.list (ms.map mkD)) = true := by
  have h1 := mkDs_depth ms
  show (PyData.canLay0 (.list (ms.map mkD)) && decide (PyData.depth (.list (ms.map mkD)) ≤ 64)) = true
  rw [Bool.and_eq_true]
  refine ⟨by simp only [PyData.canLay0]; exact mkDs_lay ms, decide_eq_true ?_⟩
  simp only [PyData.depth]
  omega
theorem dp_mk {K : PySem.W.Frag} {H : Hp} {v : V} {m : Mark} (h : IsMk H v m) : Dp K H v (mkD m) := by
  obtain ⟨a, rfl, h⟩ := h
  exact .tup (SqT.of h) (.cons (.int _) (.cons (.int _) .nil))
theorem dp_mks {K : PySem.W.Frag} {H : Hp} : ∀ {vs : List V} {ms : List Mark}, Paired (IsMk H) vs ms → DpAll K H vs (ms.map mkD)
  | _, _, .nil => .nil
  | _, _, .cons h t => .cons (dp_mk h) (dp_mks t)
theorem any_mk (ms : List Mark) (b : Mark) : ((ms.map mkD).any fun z => PyData.eqv z (mkD b)) = decide (b ∈ ms) := by
  rw [List.any_map]
  have : ((fun z => PyData.eqv z (mkD b)) ∘ mkD) = fun a => decide (a = b) := by
    funext a
    exact mkD_eqv a b
  rw [this]
  rw [Bool.eq_iff_iff]
  simp
/-- the first place of a mark, as list.index asks it -/
theorem idx_mk {ms : List Mark} {b : Mark} (h : b ∈ ms) : (ms.map mkD)[ms.idxOf b]? = some (mkD b) ∧ PyData.eqv (mkD b) (mkD b) = true ∧ ∀ (m : Nat) (z : PyData), m < ms.idxOf b → (ms.map mkD)[m]? = some z → PyData.eqv z (mkD b) = false := by
  refine ⟨?_, by rw [mkD_eqv]; simp, fun i z hi hz => ?_⟩
  · rw [List.getElem?_map, List.getElem?_eq_getElem (List.idxOf_lt_length_of_mem h), List.getElem_idxOf]
    rfl
  · rw [List.getElem?_map] at hz
    cases q : ms[i]? with
    | none => rw [q] at hz; cases hz
    | some a =>
      rw [q] at hz
      cases hz
      rw [mkD_eqv, decide_eq_false]
      intro e
      subst e
      have hl := (List.getElem?_eq_some_iff.mp q)
      obtain ⟨hl, ea⟩ := hl
      have := List.not_of_lt_findIdx (p := (· == a)) (xs := ms) (i := i) hi
      simp [ea] at this
end Q3

set_option Elab.async false
set_option linter.all false
set_option maxRecDepth 100000
set_option maxHeartbeats 8000000
/-! Deeds.row -/
namespace Q3
open PySem PySem.Spec PyProof.Rows L2 LamX
/-- the rule for a def whose code object is known -/
theorem okC {P : Program} {w : World} {K : PySem.W.Frag} {mg : Str → Option Value} {base : Heap} {x qual : Str} {st : Stmt} {f c : Addr} {fd : FuncData} {N ps : List Str} {k : Nat} {sp : Sp} (F : Fun K x qual st f fd) (hc : fd.code = .ref c) (S : FnScope N ps (defScope st)) (len : ∀ vs H Q E, sp vs H Q E → vs.length = ps.length)
    (hbody : ∀ (A : Around) (outer : List Env) (s : Shared) (H : Hp) (vs : List V) (Q : VK) (E : XK), Room k (A.deeper (envOfC qual (defScope st) s.heap.objs.size f (.ref c))) → sp vs H Q E →
      ∃ t, PSs (cxOf CX0 P w K mg base N qual (defScope st) f (.ref c) A outer s H E).nox (defBody st) t ∧ t { nx := fun _ H' => Q .non H', rt := Q } (start N vs) H) : FnOk P w K mg base CX0 (k + 1) f fd ps sp := by
  obtain ⟨oc, od, kV, doc, pm, an, cdv, ct, osl, rfl, lk, hcd⟩ := F.ex
  have e : cdv = .ref c := hc
  subst e
  refine fn_of lk hcd S len fun A outer s H vs Q E hr hsp => ?_
  obtain ⟨t, h, q⟩ := hbody A outer s H vs Q E hr hsp
  exact ⟨t, h.nox, q⟩
/-! the dict of what is seen -/
def kvT (ts : List (Ent × Addr)) : List (List Key × V) := ts.map fun z => (mkK z.1.mark, V.ref z.2)
theorem kvT_none {m : Mark} : ∀ {ts : List (Ent × Addr)}, m ∉ (ts.map (·.1)).map (·.mark) → valV (kvT ts) (mkK m) = none
  | [], _ => rfl
  | z :: r, h => by
    have h1 : ¬ mkK z.1.mark = mkK m := fun e => h (by rw [← mkK_inj e]; exact List.mem_cons_self)
    show valV ((mkK z.1.mark, V.ref z.2) :: kvT r) (mkK m) = none
    rw [valV_neg h1]
    exact kvT_none fun q => h (List.mem_cons_of_mem _ q)
theorem kvT_some {m : Mark} : ∀ {ts : List (Ent × Addr)}, m ∈ (ts.map (·.1)).map (·.mark) → ∃ z ∈ ts, valV (kvT ts) (mkK m) = some (V.ref z.2) ∧ (ts.map (·.1)).find? (fun e => decide (e.mark = m)) = some z.1
  | [], h => nomatch h
  | z :: r, h => by
    by_cases e : z.1.mark = m
    · refine ⟨z, List.mem_cons_self, ?_, ?_⟩
      · show valV ((mkK z.1.mark, V.ref z.2) :: kvT r) (mkK m) = _
        rw [valV_pos (by rw [e])]
      · rw [List.map_cons, List.find?_cons, decide_eq_true e]
    · have hr : m ∈ (r.map (·.1)).map (·.mark) := by
        cases h with
        | head => exact absurd rfl e
        | tail _ h => exact h
      obtain ⟨y, h1, h2, h3⟩ := kvT_some hr
      refine ⟨y, List.mem_cons_of_mem _ h1, ?_, ?_⟩
      · show valV ((mkK z.1.mark, V.ref z.2) :: kvT r) (mkK m) = _
        rw [valV_neg (fun q => e (mkK_inj q))]
        exact h2
      · rw [List.map_cons, List.find?_cons, decide_eq_false e]
        exact h3
abbrev qRow : Str := ("Deeds.row" : Str) ++ ".<locals>." ++ "<lambda>"
def spRow (T : List (Addr × Str)) (C : Addr) : Sp := fun vs H Q _ => ∃ (p : Addr) (rows : List (List Deed)) (m : Str), vs = [.ref p, .str m] ∧ DeedsAt C H p rows ∧ WB rows ∧ Good (srtE (fndL (chOf rows m))) ∧ Tabs T H ∧
  ∀ (H' : Hp) (q : Addr) (us : List V), Ex T H H' → H' q = some (.lst us) → Paired (IsRes H') us (rowR rows m) → Q (.ref q) H'
/-- what holds ahead of the i-th turn of the second loop -/
def RowInv (T : List (Addr × Str)) (H : Hp) (p : Addr) (m : Str) (rd fl pl sn qs : Addr) (vs2 : List V) (S : List Ent) (R : List Mark) (i : Nat) (σ : L2.St) (H4 : Hp) : Prop :=
  ∃ (w4 w5 w6 w7 w8 w9 w12 : Option V) (ps : List V) (ts : List (Ent × Addr)), σ = [some (.ref p), some (.str m), some (.ref rd), some (.ref fl), w4, w5, w6, w7, w8, w9, some (.ref pl), some (.ref sn), w12] ∧ Ex T H H4 ∧
    H4 qs = some (.lst vs2) ∧ Paired (IsFd H4) vs2 S ∧ H4 rd = some (.dT (kvM R)) ∧ H4 pl = some (.lst ps) ∧ Paired (IsMk H4) ps (build (S.take i)) ∧ H4 sn = some (.dT (kvT ts)) ∧ ts.map (·.1) = S.take i ∧ ∀ z ∈ ts, H4 z.2 = some (.tup [.str ⟨#[z.1.code]⟩, .bl (seenB R z.1)])
theorem row_next {T : List (Addr × Str)} {H : Hp} {p : Addr} {m : Str} {rd fl pl sn qs : Addr} {vs2 : List V} {S : List Ent} {R : List Mark} {i : Nat} {H4 : Hp} {w4 w5 w6 w7 w8 w9 w12 : Option V} {ps ps' : List V} {ts : List (Ent × Addr)} {e : Ent} {t : Addr} {sb : Bool}
    (hpl0 : H pl = none) (hsn0 : H sn = none) (nps : pl ≠ sn) (nqp : qs ≠ pl) (nqs : qs ≠ sn) (nrp : rd ≠ pl) (nrs : rd ≠ sn) (hn : (S.map (·.mark)).Nodup)
    (e4 : Ex T H H4) (hq4 : H4 qs = some (.lst vs2)) (hP4 : Paired (IsFd H4) vs2 S) (hr4 : H4 rd = some (.dT (kvM R))) (hp4 : H4 pl = some (.lst ps)) (hs4 : H4 sn = some (.dT (kvT ts))) (hts : ts.map (·.1) = S.take i)
    (htt : ∀ z ∈ ts, H4 z.2 = some (.tup [.str ⟨#[z.1.code]⟩, .bl (seenB R z.1)])) (ge : S[i]? = some e) (hB : Paired (IsMk H4) ps' (build (S.take (i + 1)))) (hsb : sb = seenB R e)
    (ht : upd H4 pl (.lst ps') t = none) : RowInv T H p m rd fl pl sn qs vs2 S R (i + 1) [some (.ref p), some (.str m), some (.ref rd), some (.ref fl), w4, w5, w6, w7, w8, w9, some (.ref pl), some (.ref sn), w12]
      (upd (upd (upd H4 pl (.lst ps')) t (.tup [.str ⟨#[e.code]⟩, .bl sb])) sn (.dT (putK (kvT ts) (mkK e.mark) (.ref t)))) := by
  have e5 : Ex T H (upd H4 pl (.lst ps')) := e4.put hpl0 hp4
  have e6 := e5.new (o := .tup [.str ⟨#[e.code]⟩, .bl sb]) ht
  have t5 : TT H4 (upd H4 pl (.lst ps')) := TT.putL hp4
  have s6 := Same.new (o := .tup [.str ⟨#[e.code]⟩, .bl sb]) ht
  have hs5 : upd H4 pl (.lst ps') sn = some (.dT (kvT ts)) := by rw [upd_ne nps.symm]; exact hs4
  have hs6 := s6 _ _ hs5
  have t7 : TT (upd (upd H4 pl (.lst ps')) t (.tup [.str ⟨#[e.code]⟩, .bl sb])) (upd (upd (upd H4 pl (.lst ps')) t (.tup [.str ⟨#[e.code]⟩, .bl sb])) sn (.dT (putK (kvT ts) (mkK e.mark) (.ref t)))) := TT.put hs6 fun xs z => by cases z
  have tA := (t5.trans (TT.of s6)).trans t7
  have hfresh : e.mark ∉ (ts.map (·.1)).map (·.mark) := by
    rw [hts]
    intro hm
    have z := take_split ge
    rw [z, List.map_append, List.nodup_append] at hn
    exact hn.2.2 _ hm e.mark (by simp) rfl
  have ek : putK (kvT ts) (mkK e.mark) (.ref t) = kvT (ts ++ [(e, t)]) := by
    rw [putK_new _ (kvT_none hfresh)]
    unfold kvT
    rw [List.map_append]
    rfl
  refine ⟨w4, w5, w6, w7, w8, w9, w12, ps', ts ++ [(e, t)], rfl, e6.put hsn0 hs6, ?_, p_mono hP4 fun _ _ z => z.tt tA, ?_, ?_, p_mono hB fun _ _ z => z.tt tA, ?_, ?_, fun z hz => ?_⟩
  · rw [upd_ne nqs]
    refine s6 _ _ ?_
    rw [upd_ne nqp]
    exact hq4
  · rw [upd_ne nrs]
    refine s6 _ _ ?_
    rw [upd_ne nrp]
    exact hr4
  · rw [upd_ne nps]
    refine s6 _ _ ?_
    rw [upd_same]
  · rw [upd_same, ek]
  · rw [List.map_append, hts, take_snoc ge]
    rfl
  · rcases List.mem_append.mp hz with q | q
    · exact tA _ _ (htt z q)
    · rw [List.mem_singleton.mp q, ← hsb]
      exact t7 _ _ upd_same
section
variable {P : Program} {w : World} {K : PySem.W.Frag} {mg : Str → Option Value} {base : Heap} {C : Addr}
abbrev nRow : List Str := ["self", "module", "removed", "found", "replica", "deed", "in_force", "mark", "behind", "char", "places", "seen", "index"]
theorem scDR : FnScope nRow ["self", "module"] (defScope sDRow) := ⟨rfl, rfl, rfl, by decide +kernel, rfl, by decide +kernel, by decide +kernel⟩
theorem met_row {T : List (Addr × Str)} {f c Pt : Addr} {fd : FuncData} (F : Fun K "row" "Deeds.row" sDRow f fd) (hc : fd.code = .ref c) (TB : TabB base mg c Pt) (hmT : (Pt, qRow) ∈ T) (huT : ∀ q ∈ T, q.1 = Pt → q.2 = qRow) (M : Meth K C "row" f) (X : Txt K mg) (D : TD K C)
    (GC : Met P w K mg base 2 C "changes" (spChanges C)) (GI : Cal P w K mg base 1 "inserted" spIns) : Met P w K mg base 3 C "row" (spRow T C) := by
  refine ⟨f, fd, ["self", "module"], D.cl, M, okC F hc scDR (fun vs H Q E h => ?_) (fun A outer s H vs Q E hr h => ?_), F.binds fun _ _ _ _ _ _ us hl => match us, hl with | [_, _], _ => rfl⟩
  · obtain ⟨p, rows, m, rfl, _⟩ := h
    rfl
  · obtain ⟨p, rows, m, rfl, hDA, hWB, hG, hT, k⟩ := h
    have nd := scDR.nd
    have hu := hu_of hr
    have hu0 := hr.units0
    have hu65 : (A.deeper (envOfC "Deeds.row" (defScope sDRow) s.heap.objs.size f (.ref c))).units + 65 < cLine := by have := hr.un; omega
    have hr2 : Room 2 (A.deeper (envOfC "Deeds.row" (defScope sDRow) s.heap.objs.size f (.ref c))) := hr
    refine ⟨_, pss_cons (ps_set (i := 2) nd rfl (Or.inl rfl) pe_dnewT)
      (pss_cons (ps_set (i := 3) nd rfl (Or.inl rfl) (pe_lst pa_nil))
      (pss_cons (ps_for PassesOwn.never rfl (pi_list (pe_mm GC hr (by decide) (pv 0) (pa_cons (pv 1) pa_nil))) (pg_tup rfl (pgs_cons (pg_name (i := 4) nd rfl (.inl rfl)) (pgs_cons (pg_name (i := 5) nd rfl (.inl rfl)) (pgs_cons (pg_name (i := 6) nd rfl (.inr rfl)) pgs_nil))))
        (pss_cons (ps_expr (pe_bm PySem.F.plainAttrs_list PySem.F.slot_list_extend PySem.F.type_list_extend mt_extend (pv 3) (pa_cons
            (pe_lc (own := [("mark", 7), ("behind", 8), ("char", 9)]) (g := gTup K 3 (gCons (gName 7) (gCons (gName 8) (gCons (gName 9) gNil)))) (tt := tYes) rfl nd (pi_list (pe_f GI hr (by decide) rfl (pa_cons (pv 4) (pa_cons (pv 5) pa_nil))))
              (blkOk_by (N := nRow) (sc := defScope sDRow) (by decide +kernel)) (fun _ _ _ _ _ => pg_tup rfl (pgs_cons (pg_name (i := 7) nd rfl (.inl rfl)) (pgs_cons (pg_name (i := 8) nd rfl (.inl rfl)) (pgs_cons (pg_name (i := 9) nd rfl (.inl rfl)) pgs_nil))))
              (fun _ _ _ _ _ => pts_nil) (fun _ _ _ _ _ => pe_tup (pa_cons (pv 7) (pa_cons (pv 8) (pa_cons (pv 9) (pa_cons (pv 6) pa_nil)))))) pa_nil)))
        (pss_one (ps_if (pt_val (pv 6)) (pss_one (ps_expr (pe_bm PySem.F.plainAttrs_dict PySem.F.slot_dict_update PySem.F.type_dict_update (mt_updateM hu) (pv 2) (pa_cons
            (pe_dcM (i := 7) rfl nd hu0 (pe_ix ix_tup (pv 5) pe_int (fun _ _ => rfl)) (by show 7 < nRow.length; decide) (blkOk_by (N := nRow) (sc := defScope sDRow) (by decide +kernel)) (fun _ _ _ _ _ => pg_name (i := 7) nd rfl (.inl rfl)) (fun _ _ _ _ _ => pv 7)) pa_nil)))) pss_nil))))
      (pss_cons (ps_set (i := 10) nd rfl (Or.inl rfl) (pe_lst pa_nil))
      (pss_cons (ps_set (i := 11) nd rfl (Or.inr rfl) pe_dnewT)
      (pss_cons (ps_for PassesOwn.never rfl (pi_list (pe_sortK (X := (cxOf CX0 P w K mg base nRow "Deeds.row" (defScope sDRow) f (.ref c) A outer s H E).nox) (T := T) (c := c) (P := Pt) rfl X.sorted hr2 TB rfl hmT huT rfl rfl rfl rfl (by decide) (pa_cons (pv 3) pa_nil) (fun _ _ _ _ _ _ => rfl)))
          (pg_tup rfl (pgs_cons (pg_name (i := 7) nd rfl (.inl rfl)) (pgs_cons (pg_name (i := 8) nd rfl (.inl rfl)) (pgs_cons (pg_name (i := 9) nd rfl (.inl rfl)) (pgs_cons (pg_name (i := 6) nd rfl (.inr rfl)) pgs_nil)))))
        (pss_cons (ps_set (i := 12) nd rfl (Or.inl rfl) pe_int)
        (pss_cons (ps_if (pt_cmpR op_notN (pv 8) pe_non (nomark _)) (pss_one (ps_set (i := 12) nd rfl (Or.inl rfl) (pe_op op_add (pe_bm PySem.F.plainAttrs_list PySem.F.slot_list_index PySem.F.type_list_index (mt_indexD hu65) (pv 10) (pa_cons (pv 8) pa_nil)) pe_int))) pss_nil)
        (pss_cons (ps_expr (pe_bm PySem.F.plainAttrs_list PySem.F.slot_list_insert PySem.F.type_list_insert mt_insert (pv 10) (pa_cons (pv 12) (pa_cons (pv 7) pa_nil))))
        (pss_one (ps_dput hu (pv 11) (pv 7) (pe_tup (pa_cons (pv 9) (pa_cons (pe_and (pv 6) (pe_one (pe_cmp (pc_dnotin hu (pv 7) (pv 2)) rfl))) pa_nil))) rfl))))))
      (pss_one (ps_ret (pe_lc (own := [("mark", 7)]) (g := gName 7) (tt := tYes) (te := tOp (rCatT K) (tTup (tCons (tVar 7) tNil)) (tDGet (tVar 11) (tVar 7))) rfl nd (pi_list (pv 10)) (blkOk_by (N := nRow) (sc := defScope sDRow) (by decide +kernel)) (fun _ _ _ _ _ => pg_name (i := 7) nd rfl (.inl rfl)) (fun _ _ _ _ _ => pts_nil)
          (fun _ _ _ _ _ => pe_op op_catT (pe_tup (pa_cons (pv 7) pa_nil)) (pe_dget hu (pv 11) (pv 7) (fun _ _ => rfl))))))))))), ?_⟩
    intro rd hrd
    have s0 := Same.new (o := .dT []) hrd
    refine ⟨Nat.zero_le _, fun fl hfl => ?_⟩
    have s1 := s0.trans (Same.new (o := .lst []) hfl)
    have nrf : rd ≠ fl := ne_of_none upd_same hfl
    have hfl0 := s0.free hfl
    obtain ⟨dx, a, hp, hRA⟩ := id hDA
    have noC : ([("rows", V.ref a)] : List (Str × V)).lookup ("changes" : Str) = none := by
      rw [List.lookup_cons]
      have : (("changes" : Str) == ("rows" : Str)) = false := by decide +kernel
      rw [this]
      rfl
    refine ⟨_, rfl, p, dx, _, rfl, s1 _ _ hp, noC, _, rfl, p, rows, m, rfl, hDA.ex (T := T) (Ex.of s1), hWB.len, hWB.row, fun H1 qc us0 s2 hqc hqc1 hPC => ?_⟩
    have hqc0 := s1.free hqc
    have nqr : rd ≠ qc := ne_of_none ((Same.new (o := .lst []) hfl) _ _ upd_same) hqc
    have nqf : fl ≠ qc := ne_of_none upd_same hqc
    have hlenC : us0.length ≤ 800 := by
      rw [Paired.length hPC]
      exact chTo_le hWB.row 8
    refine ⟨qc, rfl, ⟨_, SqL.of hqc1⟩, ?_⟩
    refine for_list (K := K) (a := qc) (xs := us0) (fun i σ H2 => ∃ (w4 w5 w6 w7 w8 w9 : Option V) (fs : List V), σ = [some (.ref p), some (.str m), some (.ref rd), some (.ref fl), w4, w5, w6, w7, w8, w9, none, none, none] ∧ Same H H2 ∧ TT H1 H2 ∧ H2 qc = some (.lst us0) ∧
        H2 rd = some (.dT (kvM (remL ((chOf rows m).take i)))) ∧ H2 fl = some (.lst fs) ∧ Paired (IsFd H2) fs (fndL ((chOf rows m).take i))) ?_ ?_ ?_ ?_
    · refine ⟨none, none, none, none, none, none, [], rfl, s1.trans s2, TT.refl _, hqc1, ?_, s2 _ _ upd_same, .nil⟩
      exact s2 _ _ ((Same.new (o := .lst []) hfl) _ _ upd_same)
    · rintro i σ H2 _ ⟨w4, w5, w6, w7, w8, w9, fs, rfl, s3, t3, hq2, hr2', hf2, hP2⟩
      exact SqL.of hq2
    · rintro i x σ H2 gx ⟨w4, w5, w6, w7, w8, w9, fs, rfl, s3, t3, hq2, hrd2, hf2, hP2⟩
      obtain ⟨⟨r, d, fo⟩, gc, hch⟩ := p_get hPC gx
      obtain ⟨ca, dv, rfl, hca, hdv⟩ := hch.tt t3
      have hmem := List.mem_of_getElem? gc
      obtain ⟨hdb, hr8⟩ := hWB.ch hmem
      obtain ⟨rem, beh, num, text, rfl⟩ := isChg_shape (chTo_mem hmem).2.2
      obtain ⟨hd1, hd2, hd3, _⟩ := hdb
      have hi8 : i < 800 := by have := lt_of_get gx; omega
      have hfl2 : fs.length ≤ 8000 := by
        rw [Paired.length hP2]
        have z := fndL_len (l := (chOf rows m).take i) fun c hc => (hWB.ch (List.mem_of_mem_take hc)).1
        rw [List.length_take] at z
        omega
      refine ⟨ca, _, rfl, SqT.of hca, rfl, _, _, rfl, _, _, rfl, _, _, rfl, rfl, ?_⟩
      refine ⟨_, rfl, .inl ⟨rfl, _, SqL.of hf2⟩, ?_⟩
      refine ⟨_, rfl, _, rfl, (r : Nat), dv, m, rem, beh, num, text, rfl, hdv, by omega, fun H3 pi ui s4 hpi hpi3 hPi => ?_⟩
      refine ⟨pi, rfl, ⟨_, SqL.of hpi3⟩, fun D0 hD0 => ?_⟩
      have elen : ui.length = text.cps.size := by
        rw [Paired.length hPi, insE_len, Array.length_toList]
      have etake : ∀ j, j ≤ ui.length → (entsOf (r : Nat) fo (.chg m rem beh num text)).take j = ((insE (r : Nat) num beh text.cps.toList).take j).map fun z => (⟨z.1, z.2.1, z.2.2, fo⟩ : Ent) := fun j _ => by
        show (List.map _ _).take j = _
        rw [List.map_take]
      refine lc_list (K := K) (a := pi) (xs := ui) (fun j H4 => Same H3 H4 ∧ ∃ acc : List V, H4 D0 = some (.lst acc) ∧ Paired (IsFd H4) acc ((entsOf (r : Nat) fo (.chg m rem beh num text)).take j)) ?_ ?_ ?_ ?_
      · exact ⟨Same.new hD0, [], upd_same, .nil⟩
      · rintro j H4 _ ⟨s5, _⟩
        exact SqL.of (s5 _ _ hpi3)
      · rintro j y H4 gy ⟨s5, acc, hacc, hPa⟩
        obtain ⟨⟨mk, mb, cc⟩, ge, hy⟩ := p_get hPi gy
        obtain ⟨ia, ix, iy, rfl, hia, hix, hiy⟩ := hy.tt (TT.of s5)
        refine ⟨ia, _, rfl, SqT.of hia, rfl, _, _, rfl, _, _, rfl, _, _, rfl, rfl, rfl, ?_⟩
        refine ⟨_, rfl, _, rfl, _, rfl, _, rfl, (by show 4 ≤ sizeLine; decide), fun t4 ht4 => ?_⟩
        have s6 := Same.new (o := .tup [ix, iy, .str ⟨#[cc]⟩, .bl fo]) ht4
        have hacc6 := s6 _ _ hacc
        have hal : acc.length < sizeLine := by
          have z := Paired.length hPa
          rw [List.length_take] at z
          have := lt_of_get gy
          exact small1000 (by omega)
        have tp : TT (upd H4 t4 (.tup [ix, iy, .str ⟨#[cc]⟩, .bl fo])) (upd (upd H4 t4 (.tup [ix, iy, .str ⟨#[cc]⟩, .bl fo])) D0 (.lst (acc ++ [.ref t4]))) := TT.putL hacc6
        refine ⟨acc, hacc6, hal, same_put (s5.trans s6) hD0, acc ++ [.ref t4], upd_same, ?_⟩
        have gE : (entsOf (r : Nat) fo (.chg m rem beh num text))[j]? = some ⟨mk, mb, cc, fo⟩ := by
          show (List.map _ _)[j]? = _
          rw [List.getElem?_map, ge]
          rfl
        rw [take_snoc gE]
        exact Paired.snoc (p_mono hPa fun _ _ z => (z.tt (TT.of s6)).tt tp) ⟨t4, ix, iy, rfl, tp _ _ upd_same, (hix.tt (TT.of s6)).tt tp, (hiy.tt (TT.of s6)).tt tp⟩
      · rintro H4 ⟨s5, acc, hacc, hPa⟩
        have el : (entsOf (r : Nat) fo (.chg m rem beh num text)).length = ui.length := by
          show (List.map _ _).length = _
          rw [List.length_map, insE_len, Array.length_toList, elen]
        rw [List.take_of_length_le (by rw [el]; exact Nat.le_refl _)] at hPa
        have sA := s4.trans s5
        have hf4 := sA _ _ hf2
        have hal : acc.length ≤ 10 := by rw [Paired.length hPa, el, elen]; exact hd2
        refine ⟨fl, D0, fs, acc, rfl, rfl, hf4, hacc, Nat.le_trans (by omega : _ ≤ 10000) (by decide), ?_⟩
        have tA := TT.of sA
        have tp : TT H4 (upd H4 fl (.lst (fs ++ acc))) := TT.putL hf4
        have s7 := same_put (o' := .lst (fs ++ acc)) (s3.trans sA) hfl0
        have hq7 : upd H4 fl (.lst (fs ++ acc)) qc = some (.lst us0) := by rw [upd_ne nqf.symm]; exact sA _ _ hq2
        have hr7 : upd H4 fl (.lst (fs ++ acc)) rd = some (.dT (kvM (remL ((chOf rows m).take i)))) := by rw [upd_ne nrf]; exact sA _ _ hrd2
        have eC := take_snoc gc
        have hF7 : Paired (IsFd (upd H4 fl (.lst (fs ++ acc)))) (fs ++ acc) (fndL ((chOf rows m).take (i + 1))) := by
          rw [eC, fndL_app]
          refine p_app (p_mono hP2 fun _ _ z => (z.tt tA).tt tp) ?_
          have e1 : fndL [((r, Deed.chg m rem beh num text, fo) : Nat × Deed × Bool)] = entsOf (r : Nat) fo (.chg m rem beh num text) := by
            show entsOf (r : Nat) fo (.chg m rem beh num text) ++ [] = _
            rw [List.append_nil]
          rw [e1]
          exact p_mono hPa fun _ _ z => z.tt tp
        have eR := remL_snoc ((chOf rows m).take i) (r, Deed.chg m rem beh num text, fo)
        rw [← eC] at eR
        refine ⟨_, rfl, fo, rfl, ?_⟩
        cases fo with
        | false =>
          rw [if_neg Bool.false_ne_true] at eR
          exact iteF ⟨_, _, _, _, _, _, _, rfl, s7, (t3.trans tA).trans tp, hq7, by rw [eR]; exact hr7, upd_same, hF7⟩
        | true =>
          rw [if_pos rfl] at eR
          refine iteT ?_
          obtain ⟨da, td, bv, bs, rfl, hda, htd, hbr, hbm, hbe⟩ := (hdv.tt tA).tt tp
          refine ⟨_, rfl, .inr (.inr (.inl ⟨rfl, .inr ⟨_, hr7⟩⟩)), ?_⟩
          refine ⟨_, rfl, da, _, _, _, rfl, rfl, SqT.of hda, atI_nat (j := 2) rfl, td, bs, rfl, htd, hbm, fun D1 hD1 => ?_⟩
          have s8 := Same.new (o := .dT (kvM (setM (bs.map (·.2))))) hD1
          have hr8' := s8 _ _ hr7
          have nrD : rd ≠ D1 := ne_of_none hr7 hD1
          rw [hbr] at *
          refine ⟨rd, D1, remL ((chOf rows m).take i), setM rem, rfl, rfl, nrD, hr8', upd_same, nodup_foldM _ [] .nil, fun z hz => ?_, ?_, ?_⟩
          · refine hd3 z ?_
            rcases (mem_foldM rem []).mp hz with q | q
            · cases q
            · exact q
          · have z1 := remL_len ((chOf rows m).take i) fun c hc => (hWB.ch (List.mem_of_mem_take hc)).1
            have z2 := setM_len rem
            rw [List.length_take] at z1
            exact Nat.le_trans (by omega : _ ≤ 10000) (by decide)
          · have tp9 : TT (upd (upd H4 fl (.lst (fs ++ acc))) D1 (.dT (kvM (setM rem)))) (upd (upd (upd H4 fl (.lst (fs ++ acc))) D1 (.dT (kvM (setM rem)))) rd (.dT (kvM ((setM rem).foldl addM (remL ((chOf rows m).take i)))))) := TT.put hr8' fun xs z => by cases z
            have t8 := TT.of s8
            refine ⟨_, _, _, _, _, _, _, rfl, same_put (s7.trans s8) hrd, ((((t3.trans tA).trans tp).trans t8).trans tp9), ?_, ?_, ?_, p_mono hF7 fun _ _ z => (z.tt t8).tt tp9⟩
            · rw [upd_ne nqr.symm]
              exact s8 _ _ hq7
            · rw [upd_same, eR]
              rfl
            · rw [upd_ne nrf.symm]
              exact s8 _ _ upd_same
    · rintro σ H2 ⟨w4, w5, w6, w7, w8, w9, fs, rfl, s3, t3, hq2, hrd2, hf2, hP2⟩
      rw [List.take_of_length_le (by rw [Paired.length hPC]; exact Nat.le_refl _)] at hrd2 hP2
      generalize hS : srtE (fndL (chOf rows m)) = S at hG k
      generalize hR : remL (chOf rows m) = R at hrd2
      refine ⟨Nat.zero_le _, fun pl hpl => ?_⟩
      have s4 := s3.trans (Same.new (o := .lst []) hpl)
      have hpl0 := s3.free hpl
      intro sn hsn
      have s5 := s4.trans (Same.new (o := .dT []) hsn)
      have hsn0 := s4.free hsn
      have nps : pl ≠ sn := ne_of_none upd_same hsn
      have t5 := (TT.new (o := .lst []) hpl).trans (TT.new (o := .dT []) hsn)
      have keep5 : ∀ {b : Addr} {o : HO}, H2 b = some o → upd (upd H2 pl (.lst [])) sn (.dT []) b = some o := fun e => (Same.new (o := .dT []) hsn) _ _ ((Same.new (o := .lst []) hpl) _ _ e)
      obtain ⟨zs, ez1, ez2, hz⟩ := with_addr (p_mono hP2 fun _ _ z => z.tt t5)
      refine ⟨_, rfl, fl, zs.map (fun z => (z.1, z.2.mark.1, z.2.mark.2)), rfl, ?_, hT.ext s5, ?_, fun H3 qs eX T3 hqs => ?_⟩
      · rw [List.map_map]
        show _ = some (HO.lst (zs.map fun z => V.ref z.1))
        rw [← ez1]
        exact keep5 hf2
      · intro e he
        obtain ⟨z, hzm, rfl⟩ := List.mem_map.mp he
        obtain ⟨_, _, _, e1, h1, ⟨mk, rfl, h2⟩, _⟩ := hz z hzm
        cases e1
        exact ⟨mk, _, h1, h2⟩
      have hsort := sort_addr (H := upd (upd H2 pl (.lst [])) sn (.dT [])) hz
      rw [← ez2, hS] at hsort
      generalize (((zs.map fun z => (z.1, z.2.mark.1, z.2.mark.2)).mergeSort fun (x y : Addr × Int × Int) => mleB x.2 y.2).map fun e => V.ref e.1) = vs2 at hsort
      have e3 : Ex T H (upd H3 qs (.lst vs2)) := (Ex.of s5).trans (Ex.new ⟨eX, fun _ => T3⟩ hqs)
      have keep3 : ∀ {b : Addr} {o : HO}, upd (upd H2 pl (.lst [])) sn (.dT []) b = some o → (∀ ps, o ≠ .tbl ps) → upd H3 qs (.lst vs2) b = some o := fun e n => (Same.new (o := .lst vs2) hqs) _ _ (eX _ _ e n)
      have t3' : TT (upd (upd H2 pl (.lst [])) sn (.dT [])) (upd H3 qs (.lst vs2)) := fun b xs e => keep3 e fun ps z => by cases z
      have hlenS : S.length ≤ 8000 := by
        rw [← hS, List.length_mergeSort]
        have z := fndL_len (l := chOf rows m) fun c hc => (hWB.ch hc).1
        have := Paired.length hPC
        omega
      have nqp : qs ≠ pl := fun z => by
        have := eX pl _ (show upd (upd H2 pl (.lst [])) sn (.dT []) pl = some (.lst []) by rw [upd_ne nps, upd_same]) (fun ps z => by cases z)
        rw [← z, hqs] at this
        cases this
      have nqsn : qs ≠ sn := fun z => by
        have := eX sn _ (show upd (upd H2 pl (.lst [])) sn (.dT []) sn = some (.dT []) by rw [upd_same]) (fun ps z => by cases z)
        rw [← z, hqs] at this
        cases this
      have npr : rd ≠ pl := ne_of_none hrd2 hpl
      have nsr : rd ≠ sn := ne_of_none ((Same.new (o := .lst []) hpl) _ _ hrd2) hsn
      refine ⟨qs, rfl, ⟨_, SqL.of upd_same⟩, ?_⟩
      refine for_list (K := K) (a := qs) (xs := vs2) (RowInv T H p m rd fl pl sn qs vs2 S R) ?_ ?_ ?_ ?_
      · refine ⟨w4, w5, w6, w7, w8, w9, none, [], [], rfl, e3, upd_same, p_mono hsort fun _ _ z => z.tt t3', keep3 (keep5 hrd2) (fun ps z => by cases z), keep3 (by rw [upd_ne nps, upd_same]) (fun ps z => by cases z), .nil, keep3 upd_same (fun ps z => by cases z), rfl, fun z hz => nomatch hz⟩
      · rintro i σ H4 _ ⟨w4, w5, w6, w7, w8, w9, w12, ps, ts, rfl, e4, hq4, _⟩
        exact SqL.of hq4
      · rintro i x σ H4 gx ⟨w4, w5, w6, w7, w8, w9, w12, ps, ts, rfl, e4, hq4, hP4, hr4, hp4, hB4, hs4, hts, htt⟩
        obtain ⟨e, ge, hx⟩ := p_get hP4 gx
        obtain ⟨ea, xm, xb, rfl, hea, ⟨ma, rfl, hma⟩, hxb⟩ := id hx
        have hil := lt_of_get ge
        have hSe := take_split ge
        have hpre := hG.pre hSe
        have hps : ps.length = i := by
          have z1 := Paired.length hB4
          rw [build_len, List.length_take] at z1
          omega
        have hpsz : ps.length < sizeLine := Nat.lt_of_lt_of_le (by omega : _ < 10000) (by decide)
        have hts2 : (kvT ts).length < sizeLine := by
          have z1 : (ts.map (·.1)).length = (S.take i).length := by rw [hts]
          rw [List.length_map, List.length_take] at z1
          have z2 : (kvT ts).length = ts.length := List.length_map _
          exact Nat.lt_of_lt_of_le (by omega : _ < 10000) (by decide)
        have hr5 : ∀ qs, upd H4 pl (.lst qs) rd = some (.dT (kvM R)) := fun qs => by rw [upd_ne npr]; exact hr4
        have hs5 : ∀ qs, upd H4 pl (.lst qs) sn = some (.dT (kvT ts)) := fun qs => by rw [upd_ne nps.symm]; exact hs4
        have hk5 : ∀ qs, upd H4 pl (.lst qs) ma = some (.tup ((mkK e.mark).map kV)) := fun qs => TT.putL hp4 _ _ hma
        refine ⟨ea, _, rfl, SqT.of hea, rfl, _, _, rfl, _, _, rfl, _, _, rfl, _, _, rfl, rfl, ?_⟩
        refine ⟨_, rfl, rfl, _, rfl, ?_⟩
        cases hbe : e.beh with
        | none =>
          rw [hbe] at hxb
          have hxb : xb = .non := hxb
          subst hxb
          refine iteF ?_
          refine ⟨_, rfl, .inl ⟨rfl, _, SqL.of hp4⟩, _, rfl, _, rfl, pl, ps, _, _, rfl, rfl, hp4, hpsz, by decide, by decide, ?_⟩
          refine ⟨_, rfl, _, rfl, e.inf, rfl, ?_⟩
          have hB' : Paired (IsMk H4) (ps.take (0 : Int).toNat ++ [V.ref ma] ++ ps.drop (0 : Int).toNat) (build (S.take (i + 1))) := by
            rw [take_snoc ge, build_snoc]
            unfold stepE
            rw [hbe]
            exact .cons ⟨ma, rfl, hma⟩ hB4
          refine ite2 (fun hf => ?_) (fun hf => ?_)
          · refine ⟨_, rfl, _, rfl, rd, _, rfl, DGet.t (k := mkK e.mark) (hr5 _) (hk5 _), ?_⟩
            refine ⟨by show 2 ≤ sizeLine; decide, fun t ht => ?_⟩
            refine ⟨_, rfl, _, rfl, sn, _, rfl, DPut.t (k := mkK e.mark) ((Same.new ht) _ _ (hs5 _)) ((Same.new ht) _ _ (hk5 _)) hts2, ?_⟩
            exact row_next hpl0 hsn0 nps nqp nqsn npr nsr hG.nodup e4 hq4 hP4 hr4 hp4 hs4 hts htt ge hB' (by rw [valM]; unfold seenB; rw [hf]; by_cases q : e.mark ∈ R <;> simp [q]) ht
          · refine ⟨by show 2 ≤ sizeLine; decide, fun t ht => ?_⟩
            refine ⟨_, rfl, _, rfl, sn, _, rfl, DPut.t (k := mkK e.mark) ((Same.new ht) _ _ (hs5 _)) ((Same.new ht) _ _ (hk5 _)) hts2, ?_⟩
            exact row_next hpl0 hsn0 nps nqp nqsn npr nsr hG.nodup e4 hq4 hP4 hr4 hp4 hs4 hts htt ge hB' (by unfold seenB; rw [Bool.eq_false_iff.mpr hf]; rfl) ht
        | some b =>
          rw [hbe] at hxb
          obtain ⟨ba, rfl, hba⟩ := (show IsMk H4 xb b from hxb)
          refine iteT ?_
          have hbm : b ∈ build (S.take i) := by rw [mem_build]; exact hpre b hbe
          obtain ⟨x1, x2, x3⟩ := idx_mk hbm
          have hix : (build (S.take i)).idxOf b < 10000 := by
            have z := List.idxOf_lt_length_of_mem hbm
            rw [build_len, List.length_take] at z
            omega
          refine ⟨_, rfl, .inl ⟨rfl, _, SqL.of hp4⟩, _, rfl, pl, _, mkD b, _, _, _, rfl, rfl, .lst (SqL.of hp4) (dp_mks hB4), dp_mk ⟨ba, rfl, hba⟩, mkDs_shaped _, mkD_shaped _, x1, x2, x3, _, _, rfl, rfl, ?_⟩
          refine ⟨_, rfl, .inl ⟨rfl, _, SqL.of hp4⟩, _, rfl, _, rfl, pl, ps, _, _, rfl, rfl, hp4, hpsz, by omega, by omega, ?_⟩
          refine ⟨_, rfl, _, rfl, e.inf, rfl, ?_⟩
          have hB' : Paired (IsMk H4) (ps.take ((((build (S.take i)).idxOf b : Nat) : Int) + 1).toNat ++ [V.ref ma] ++ ps.drop ((((build (S.take i)).idxOf b : Nat) : Int) + 1).toNat) (build (S.take (i + 1))) := by
            rw [take_snoc ge, build_snoc]
            unfold stepE
            rw [hbe]
            have z : ((((build (S.take i)).idxOf b : Nat) : Int) + 1).toNat = (build (S.take i)).idxOf b + 1 := by omega
            rw [z]
            exact p_app (p_app (p_take _ hB4) (.cons ⟨ma, rfl, hma⟩ .nil)) (p_drop _ hB4)
          refine ite2 (fun hf => ?_) (fun hf => ?_)
          · refine ⟨_, rfl, _, rfl, rd, _, rfl, DGet.t (k := mkK e.mark) (hr5 _) (hk5 _), ?_⟩
            refine ⟨by show 2 ≤ sizeLine; decide, fun t ht => ?_⟩
            refine ⟨_, rfl, _, rfl, sn, _, rfl, DPut.t (k := mkK e.mark) ((Same.new ht) _ _ (hs5 _)) ((Same.new ht) _ _ (hk5 _)) hts2, ?_⟩
            exact row_next hpl0 hsn0 nps nqp nqsn npr nsr hG.nodup e4 hq4 hP4 hr4 hp4 hs4 hts htt ge hB' (by rw [valM]; unfold seenB; rw [hf]; by_cases q : e.mark ∈ R <;> simp [q]) ht
          · refine ⟨by show 2 ≤ sizeLine; decide, fun t ht => ?_⟩
            refine ⟨_, rfl, _, rfl, sn, _, rfl, DPut.t (k := mkK e.mark) ((Same.new ht) _ _ (hs5 _)) ((Same.new ht) _ _ (hk5 _)) hts2, ?_⟩
            exact row_next hpl0 hsn0 nps nqp nqsn npr nsr hG.nodup e4 hq4 hP4 hr4 hp4 hs4 hts htt ge hB' (by unfold seenB; rw [Bool.eq_false_iff.mpr hf]; rfl) ht
      · rintro σ H4 ⟨w4, w5, w6, w7, w8, w9, w12, ps, ts, rfl, e4, hq4, hP4, hr4, hp4, hB4, hs4, hts, htt⟩
        rw [List.take_of_length_le (by rw [Paired.length hP4]; exact Nat.le_refl _)] at hB4 hts
        have hlps : ps.length ≤ 8000 := by
          have z := Paired.length hB4
          rw [build_len] at z
          omega
        refine ⟨_, rfl, pl, rfl, ⟨_, SqL.of hp4⟩, fun D0 hD0 => ?_⟩
        have eRow : rowR rows m = (build S).map (atMark S R) := by unfold rowR; rw [hS, hR]
        refine lc_list (K := K) (a := pl) (xs := ps) (fun j H5 => Same H4 H5 ∧ ∃ acc : List V, H5 D0 = some (.lst acc) ∧ Paired (IsRes H5) acc ((rowR rows m).take j)) ?_ ?_ ?_ ?_
        · exact ⟨Same.new hD0, [], upd_same, .nil⟩
        · rintro j H5 _ ⟨s5, _⟩
          exact SqL.of (s5 _ _ hp4)
        · rintro j y H5 gy ⟨s5, acc, hacc, hPa⟩
          obtain ⟨mk, gm, ⟨ya, rfl, hya⟩⟩ := p_get hB4 gy
          have hmem : mk ∈ (ts.map (·.1)).map (·.mark) := by
            rw [hts, ← mem_build]
            exact List.mem_of_getElem? gm
          obtain ⟨z, hz, hval, hfind⟩ := kvT_some hmem
          rw [hts] at hfind
          have hz2 := htt z hz
          have gr : (rowR rows m)[j]? = some (mk, z.1.code, seenB R z.1) := by
            rw [eRow, List.getElem?_map, gm]
            show some (atMark S R mk) = _
            unfold atMark
            rw [hfind]
          refine ⟨rfl, _, rfl, by show 1 ≤ sizeLine; decide, fun t1 ht1 => ?_⟩
          have s6 := s5.trans (Same.new (o := .tup [.ref ya]) ht1)
          refine ⟨_, rfl, _, rfl, sn, .ref z.2, rfl, by rw [← hval]; exact DGet.t (k := mkK mk) (s6 _ _ hs4) (s6 _ _ hya), ?_⟩
          refine ⟨t1, z.2, _, _, rfl, rfl, SqT.of upd_same, SqT.of (s6 _ _ hz2), by simp, by show 3 ≤ sizeLine; decide, fun q => absurd q (by simp), fun _ t2 ht2 => ?_⟩
          have s7 := s6.trans (Same.new (o := .tup ([.ref ya] ++ [.str ⟨#[z.1.code]⟩, .bl (seenB R z.1)])) ht2)
          have s67 := (Same.new (o := .tup [.ref ya]) ht1).trans (Same.new (o := .tup ([.ref ya] ++ [.str ⟨#[z.1.code]⟩, .bl (seenB R z.1)])) ht2)
          have hacc7 := s67 _ _ hacc
          have hal : acc.length < sizeLine := by
            have q := Paired.length hPa
            rw [List.length_take] at q
            have := lt_of_get gy
            exact Nat.lt_of_lt_of_le (by omega : _ < 10000) (by decide)
          have tp : TT _ (upd _ D0 (.lst (acc ++ [.ref t2]))) := TT.putL hacc7
          refine ⟨acc, hacc7, hal, same_put s7 hD0, acc ++ [.ref t2], upd_same, ?_⟩
          rw [take_snoc gr]
          exact Paired.snoc (p_mono hPa fun _ _ q => (q.tt (TT.of s67)).tt tp) ⟨t2, .ref ya, rfl, tp _ _ upd_same, ya, rfl, tp _ _ (s7 _ _ hya)⟩
        · rintro H5 ⟨s5, acc, hacc, hPa⟩
          rw [List.take_of_length_le (by rw [eRow, List.length_map, Paired.length hB4]; exact Nat.le_refl _)] at hPa
          exact k H5 D0 acc (e4.trans (Ex.of s5)) hacc hPa
end
end Q3

set_option Elab.async false
set_option linter.all false
set_option maxRecDepth 100000
set_option maxHeartbeats 4000000
/-! the draws -/
namespace Q3
open PySem PySem.Spec PyProof.Rows L2 LamX
/-- a draw -/
def Dr (v : Int) : Prop := 0 ≤ v ∧ v < 9973
theorem dr_mod (x : Int) : Dr (x % 9973) := ⟨Int.emod_nonneg _ (by decide), Int.emod_lt_of_pos _ (by decide)⟩
def spMix : Sp := fun vs H Q _ => ∃ c k : Int, vs = [.int c, .int k] ∧ ∀ v, Dr v → Q (.int v) H
def spDraws (K : PySem.W.Frag) : Sp := fun vs H Q _ => ∃ (a : Addr) (ns : List Int), vs = [.ref a] ∧ SqL K H a (ns.map V.int) ∧ ns.length ≤ 63 ∧
  ∀ (H' : Hp) (q : Addr) (ds : List Int), Same H H' → H' q = some (.lst (ds.map V.int)) → ds.length ≤ 10000 → (∀ v ∈ ds, Dr v) → Q (.ref q) H'
/-- the draws stand at q -/
def DrAt (H : Hp) (q : Addr) : Prop := ∃ ds : List Int, H q = some (.lst (ds.map V.int)) ∧ ds.length ≤ 10000 ∧ ∀ v ∈ ds, Dr v
theorem DrAt.ex {T : List (Addr × Str)} {H H' : Hp} {q : Addr} (h : DrAt H q) (e : Ex T H H') : DrAt H' q := by
  obtain ⟨ds, h1, h2⟩ := h
  exact ⟨ds, e.at h1, h2⟩
theorem DrAt.same {H H' : Hp} {q : Addr} (h : DrAt H q) (e : Same H H') : DrAt H' q := h.ex (T := []) (Ex.of e)
def spAt : Sp := fun vs H Q _ => ∃ (q : Addr) (i : Int), vs = [.ref q, .int i] ∧ DrAt H q ∧ 0 ≤ i ∧ ∀ v, Dr v → Q (.int v) H
section
variable {P : Program} {w : World} {K : PySem.W.Frag} {mg : Str → Option Value} {base : Heap}
theorem scMix : FnScope ["_law_cell", "_law_k", "_law_value"] ["_law_cell", "_law_k"] (defScope sMix) := ⟨rfl, rfl, rfl, by decide +kernel, rfl, by decide +kernel, by decide +kernel⟩
theorem cal_mix {f : Addr} {fd : FuncData} (F : Fun K "_law_mix" "_law_mix" sMix f fd) (hm : mg "_law_mix" = some (.ref f)) (T : Txt K mg) : Cal P w K mg base 1 "_law_mix" spMix := by
  refine ⟨f, fd, ["_law_cell", "_law_k"], F.ok scMix (fun vs H Q E h => ?_) (fun cdv A outer s H vs Q E hr h => ?_), hm, F.kp, F.binds fun _ _ _ _ _ _ us hl => match us, hl with | [_, _], _ => rfl⟩
  · obtain ⟨c, k, rfl, _⟩ := h
    rfl
  · obtain ⟨c, k, rfl, q⟩ := h
    have nd := scMix.nd
    refine ⟨_, pss_cons (ps_set (i := 2) nd rfl (Or.inl rfl) (pe_op op_mod (pe_callTy call_int1 (by rfl) T.int PyProof.Rows.boot_int (pa_cons (pe_op op_add (pe_op op_add (pe_op op_mul (pe_callTy call_int1 (by rfl) T.int PyProof.Rows.boot_int (pa_cons (pv 0) pa_nil)) pe_int) (pe_op op_mul (pv 1) pe_int)) pe_int) pa_nil)) pe_int))
      (pss_cons (ps_set (i := 2) nd rfl (Or.inl rfl) (pe_op op_mod (pe_callTy call_int1 (by rfl) T.int PyProof.Rows.boot_int (pa_cons (pe_op op_add (pe_op op_add (pe_op op_mul (pv 2) (pv 2)) (pe_op op_mul (pv 1) pe_int)) pe_int) pa_nil)) pe_int))
      (pss_one (ps_ret (pe_op op_mod (pe_op op_fdiv (pv 2) pe_int) pe_int)))), ?_⟩
    refine ⟨_, rfl, .inl ⟨_, rfl, _, _, rfl, rfl, .inr (by decide), _, rfl, _, _, rfl, rfl, .inr (by decide), _, _, rfl, rfl, _, _, rfl, rfl, .inl ⟨_, rfl, _, _, rfl, rfl, (by show (0 : Int) < _; decide), ?_⟩⟩⟩
    generalize hv : (c * 48271 + k * 69621 + 12345) % 2147483647 = v1
    have h1 : 0 ≤ v1 := by rw [← hv]; exact Int.emod_nonneg _ (by decide)
    have h2 : v1 < 2147483647 := by rw [← hv]; exact Int.emod_lt_of_pos _ (by decide)
    refine ⟨_, rfl, _, rfl, _, _, rfl, rfl, .inl ⟨by omega, by omega⟩, _, rfl, _, _, rfl, rfl, .inr (by decide), _, _, rfl, rfl, _, _, rfl, rfl, .inl ⟨_, rfl, _, _, rfl, rfl, (by show (0 : Int) < _; decide), ?_⟩⟩
    exact ⟨_, rfl, _, _, rfl, rfl, ⟨by decide, by decide⟩, _, _, rfl, rfl, (by show (0 : Int) < _; decide), q _ (dr_mod _)⟩
theorem scDraws : FnScope ["_law_script", "_law_draws_here", "_law_k", "_law_cell", "_law_place"] ["_law_script"] (defScope sDraws) := ⟨rfl, rfl, rfl, by decide +kernel, rfl, by decide +kernel, by decide +kernel⟩
theorem cal_draws {f : Addr} {fd : FuncData} (F : Fun K "_law_draws" "_law_draws" sDraws f fd) (hm : mg "_law_draws" = some (.ref f)) (T : Txt K mg) (GM : Cal P w K mg base 1 "_law_mix" spMix) : Cal P w K mg base 2 "_law_draws" (spDraws K) := by
  refine ⟨f, fd, ["_law_script"], F.ok scDraws (fun vs H Q E h => ?_) (fun cdv A outer s H vs Q E hr h => ?_), hm, F.kp, F.binds fun _ _ _ _ _ _ us hl => match us, hl with | [_], _ => rfl⟩
  · obtain ⟨a, ns, rfl, _⟩ := h
    rfl
  · obtain ⟨a, ns, rfl, hS, hz, q⟩ := h
    have nd := scDraws.nd
    refine ⟨_, pss_cons (ps_set (i := 1) nd rfl (Or.inl rfl) (pe_lst pa_nil))
      (pss_cons (ps_for PassesOwn.never rfl (pi_range1 rfl T.range (pa_cons (pe_callB (call_min2 rfl) (by rfl) T.min (by decide +kernel) (pa_cons pe_int (pa_cons (pe_callB call_len_seq (by rfl) T.len PySem.boot_len (pa_cons (pv 0) pa_nil)) pa_nil))) pa_nil)) (pg_name (i := 2) nd rfl (Or.inl rfl))
        (pss_cons (ps_set (i := 3) nd rfl (Or.inl rfl) (pe_callTy call_int1 (by rfl) T.int PyProof.Rows.boot_int (pa_cons (pe_ix ix_list (pv 0) (pv 2) (fun _ _ => rfl)) pa_nil)))
        (pss_one (ps_if (pt_cmpR op_lt (pv 3) (pe_op op_pow pe_int pe_int) (nomark _))
          (pss_one (ps_expr (pe_bm PySem.F.plainAttrs_list PySem.F.slot_list_append PySem.F.type_list_append mt_append (pv 1) (pa_cons (pe_f GM hr (by decide) rfl (pa_cons (pv 3) (pa_cons (pv 2) pa_nil))) pa_nil))))
          (pss_one (ps_for PassesOwn.never rfl (pi_range1 rfl T.range (pa_cons pe_int pa_nil)) (pg_name (i := 4) nd rfl (Or.inl rfl))
            (pss_one (ps_if (pt_cmpR op_gt (pv 3) pe_int (nomark _))
              (pss_cons (ps_expr (pe_bm PySem.F.plainAttrs_list PySem.F.slot_list_append PySem.F.type_list_append mt_append (pv 1) (pa_cons (pe_op op_mod (pe_callTy call_int1 (by rfl) T.int PyProof.Rows.boot_int (pa_cons (pv 3) pa_nil)) pe_int) pa_nil)))
              (pss_one (ps_set (i := 3) nd rfl (Or.inl rfl) (pe_op op_fdiv (pv 3) pe_int)))) pss_nil))))))))
      (pss_one (ps_ret (pv 1)))), ?_⟩
    refine ⟨Nat.zero_le _, fun l hl => ?_⟩
    have s0 := Same.new (o := .lst []) hl
    have hlen : (ns.map V.int).length ≤ 63 := by rw [List.length_map]; exact hz
    refine ⟨_, rfl, a, _, rfl, .inl (s0.seq hS), 63, _, rfl, ?_⟩
    have hmin : (if ((ns.map V.int).length : Int) < 63 then ((ns.map V.int).length : Int) else 63) = ((ns.map V.int).length : Int) := by
      split <;> omega
    rw [hmin]
    refine ⟨_, rfl, by omega, by omega, ?_⟩
    have e0 : (((ns.map V.int).length : Int)).toNat = (ns.map V.int).length := by omega
    rw [e0]
    refine for_range (lo := 0) (n := (ns.map V.int).length) (fun i σ H1 => ∃ (w2 w3 w4 : Option V) (ds : List Int), σ = [some (.ref a), some (.ref l), w2, w3, w4] ∧ Same H H1 ∧ H1 l = some (.lst (ds.map V.int)) ∧ ds.length ≤ i * 61 ∧ ∀ v ∈ ds, Dr v) ?_ ?_ ?_
    · exact ⟨none, none, none, [], rfl, s0, upd_same, Nat.zero_le _, fun v h => nomatch h⟩
    · rintro i σ H1 hi ⟨w2, w3, w4, ds, rfl, s1, hL, hd, hv⟩
      have hi2 : i < ns.length := by rw [List.length_map] at hi; exact hi
      have gi : (ns.map V.int)[i]? = some (V.int ns[i]) := by rw [List.getElem?_map, List.getElem?_eq_getElem hi2]; rfl
      have ez : (0 : Int) + (i : Nat) = ((i : Nat) : Int) := by omega
      rw [ez]
      have hdl : (ds.map V.int).length < sizeLine := by rw [List.length_map]; exact Nat.lt_of_lt_of_le (by omega : _ < 10000) (by decide)
      refine ⟨_, rfl, _, rfl, a, _, _, _, rfl, rfl, s1.seq hS, atI_nat gi, .inl ⟨_, rfl, ?_⟩⟩
      generalize ns[i] = cell
      refine ⟨_, rfl, _, _, rfl, rfl, ⟨by decide, by decide, by decide⟩, _, _, rfl, rfl, _, rfl, ?_⟩
      refine ite2 (fun hc => ?_) (fun hc => ?_)
      · refine ⟨_, rfl, .inl ⟨rfl, _, SqL.of hL⟩, _, rfl, _, rfl, cell, _, rfl, fun v hv1 => ?_⟩
        refine ⟨l, _, _, rfl, rfl, hL, hdl, ?_⟩
        refine ⟨_, _, w4, ds ++ [v], rfl, same_put s1 hl, by rw [upd_same, List.map_append]; rfl, ?_, fun x hx => ?_⟩
        · rw [List.length_append, List.length_singleton]
          omega
        · rcases List.mem_append.mp hx with z | z
          · exact hv x z
          · rw [List.mem_singleton.mp z]; exact hv1
      · refine ⟨60, rfl, by decide, by decide, ?_⟩
        refine for_range (lo := 0) (n := 60) (fun j σ H2 => ∃ (cell : Int) (w4 : Option V) (ds : List Int), σ = [some (.ref a), some (.ref l), some (.int (i : Nat)), some (.int cell), w4] ∧ Same H H2 ∧ H2 l = some (.lst (ds.map V.int)) ∧ ds.length ≤ i * 61 + j ∧ ∀ v ∈ ds, Dr v) ?_ ?_ ?_
        · exact ⟨_, _, ds, rfl, s1, hL, by omega, hv⟩
        · rintro j σ H2 hj ⟨cell, w4, ds, rfl, s2, hL2, hd2, hv2⟩
          have hdl : (ds.map V.int).length < sizeLine := by rw [List.length_map]; exact Nat.lt_of_lt_of_le (by omega : _ < 10000) (by decide)
          refine ⟨_, rfl, _, _, rfl, rfl, _, rfl, ?_⟩
          refine ite2 (fun hc => ?_) (fun hc => ?_)
          · refine ⟨_, rfl, .inl ⟨rfl, _, SqL.of hL2⟩, _, rfl, .inl ⟨_, rfl, _, _, rfl, rfl, (by show (0 : Int) < _; decide), ?_⟩⟩
            refine ⟨l, _, _, rfl, rfl, hL2, hdl, ?_⟩
            refine ⟨_, rfl, _, _, rfl, rfl, ⟨by decide, by decide⟩, ?_⟩
            refine ⟨_, _, ds ++ [cell % 9973], rfl, same_put s2 hl, by rw [upd_same, List.map_append]; rfl, ?_, fun x hx => ?_⟩
            · rw [List.length_append, List.length_singleton]
              omega
            · rcases List.mem_append.mp hx with z | z
              · exact hv2 x z
              · rw [List.mem_singleton.mp z]; exact dr_mod _
          · exact ⟨_, _, ds, rfl, s2, hL2, by omega, hv2⟩
        · rintro σ H2 ⟨cell, w4, ds, rfl, s2, hL2, hd2, hv2⟩
          exact ⟨_, _, _, ds, rfl, s2, hL2, by omega, hv2⟩
    · rintro σ H1 ⟨w2, w3, w4, ds, rfl, s1, hL, hd, hv⟩
      exact ⟨_, rfl, q _ l ds s1 hL (by omega) hv⟩
theorem scAt : FnScope ["_law_draws_here", "_law_index"] ["_law_draws_here", "_law_index"] (defScope sAt) := ⟨rfl, rfl, rfl, by decide +kernel, rfl, by decide +kernel, by decide +kernel⟩
theorem cal_at {f : Addr} {fd : FuncData} (F : Fun K "_law_at" "_law_at" sAt f fd) (hm : mg "_law_at" = some (.ref f)) (T : Txt K mg) (GM : Cal P w K mg base 1 "_law_mix" spMix) : Cal P w K mg base 2 "_law_at" spAt := by
  refine ⟨f, fd, ["_law_draws_here", "_law_index"], F.ok scAt (fun vs H Q E h => ?_) (fun cdv A outer s H vs Q E hr h => ?_), hm, F.kp, F.binds fun _ _ _ _ _ _ us hl => match us, hl with | [_, _], _ => rfl⟩
  · obtain ⟨q, i, rfl, _⟩ := h
    rfl
  · obtain ⟨q, i, rfl, ⟨ds, hq, hz, hv⟩, hi, k⟩ := h
    have nd := scAt.nd
    refine ⟨_, pss_cons (ps_if (pt_cmpR op_lt (pv 1) (pe_callB call_len_seq (by rfl) T.len PySem.boot_len (pa_cons (pv 0) pa_nil)) (nomark _)) (pss_one (ps_ret (pe_ix ix_list (pv 0) (pv 1) (fun _ _ => rfl)))) pss_nil)
      (pss_cons (ps_if (pt_cmpR op_eq (pe_callB call_len_seq (by rfl) T.len PySem.boot_len (pa_cons (pv 0) pa_nil)) pe_int (nomark _)) (pss_one (ps_ret (pe_f GM hr (by decide) rfl (pa_cons (pv 1) (pa_cons pe_int pa_nil))))) pss_nil)
      (pss_one (ps_ret (pe_f GM hr (by decide) rfl (pa_cons (pe_op op_add (pe_ix ix_list (pv 0) (pe_op op_modN (pe_callTy call_int1 (by rfl) T.int PyProof.Rows.boot_int (pa_cons (pv 1) pa_nil)) (pe_callB call_len_seq (by rfl) T.len PySem.boot_len (pa_cons (pv 0) pa_nil))) (fun _ _ => rfl)) (pe_op op_mul (pv 1) pe_int)) (pa_cons (pv 1) pa_nil)))))), ?_⟩
    have ln : (ds.map V.int).length = ds.length := List.length_map _
    refine ⟨_, rfl, _, rfl, q, _, rfl, .inl (SqL.of hq), _, _, rfl, rfl, _, rfl, ?_⟩
    rw [ln]
    refine ite2 (fun h1 => ?_) (fun h1 => ?_)
    · have h1 := of_decide_eq_true h1
      have hlt : i.toNat < ds.length := by omega
      have gi : (ds.map V.int)[i.toNat]? = some (V.int ds[i.toNat]) := by rw [List.getElem?_map, List.getElem?_eq_getElem hlt]; rfl
      have ei : atI (ds.map V.int) i = some (V.int ds[i.toNat]) := by
        have z := atI_nat gi
        rw [Int.toNat_of_nonneg hi] at z
        exact z
      exact ⟨_, rfl, _, rfl, q, _, _, _, rfl, rfl, SqL.of hq, ei, k _ (hv _ (List.getElem_mem _))⟩
    · refine ⟨_, rfl, q, _, rfl, .inl (SqL.of hq), rfl, _, rfl, ?_⟩
      rw [ln]
      refine ite2 (fun h2 => ?_) (fun h2 => ?_)
      · exact ⟨_, rfl, i, 77, rfl, k⟩
      · have h0 : ds.length ≠ 0 := fun z => h2 (by rw [z]; exact decide_eq_true rfl)
        have hm : i.fmod (ds.length : Int) = i % (ds.length : Int) := Int.fmod_eq_emod_of_nonneg _ (by omega)
        have hm1 : 0 ≤ i % (ds.length : Int) := Int.emod_nonneg _ (by omega)
        have hm2 : i % (ds.length : Int) < (ds.length : Int) := Int.emod_lt_of_pos _ (by omega)
        have hlt : (i % (ds.length : Int)).toNat < ds.length := by omega
        have gi : (ds.map V.int)[(i % (ds.length : Int)).toNat]? = some (V.int ds[(i % (ds.length : Int)).toNat]) := by rw [List.getElem?_map, List.getElem?_eq_getElem hlt]; rfl
        have ei : atI (ds.map V.int) (i.fmod ((ds.map V.int).length : Int)) = some (V.int ds[(i % (ds.length : Int)).toNat]) := by
          have z := atI_nat gi
          rw [Int.toNat_of_nonneg hm1] at z
          rw [ln, hm]
          exact z
        refine ⟨_, rfl, _, rfl, .inl ⟨_, rfl, _, rfl, q, _, rfl, .inl (SqL.of hq), _, _, rfl, rfl, (by show ((ds.map V.int).length : Int) ≠ 0; rw [ln]; omega), q, _, _, _, rfl, rfl, SqL.of hq, ei, ?_⟩⟩
        exact ⟨_, rfl, _, _, rfl, rfl, .inr (by decide), _, _, rfl, rfl, _, rfl, _, i, rfl, k⟩
end
end Q3

set_option Elab.async false
set_option linter.all false
set_option maxRecDepth 100000
set_option maxHeartbeats 4000000
/-! the law's own inserted, forces -/
namespace Q3
open PySem PySem.Spec PyProof.Rows L2 LamX
/-! a deed as data -/
theorem dp_all {K : PySem.W.Frag} {H : Hp} : ∀ {bs : List (Addr × Int × Int)}, MksAt H bs → DpAll K H (bs.map fun e => V.ref e.1) ((bs.map (·.2)).map mkD)
  | [], _ => .nil
  | b :: r, h => .cons (dp_mk ⟨b.1, rfl, h b List.mem_cons_self⟩) (dp_all fun e he => h e (List.mem_cons_of_mem _ he))
theorem back_ok : PyData.strOk ("back" : Str) = true := by decide +kernel
theorem change_ok : PyData.strOk ("change" : Str) = true := by decide +kernel
theorem dp_deed {K : PySem.W.Frag} {H : Hp} {v : V} {d : Deed} (h : IsDeed H v d) (hdb : DB d) : ∃ x : PyData, Dp K H v x ∧ SeqAt.shaped x = true := by
  cases d with
  | bak p =>
    obtain ⟨a, rfl, h1⟩ := h
    exact ⟨.tuple [.str "back", .int p], .tup (SqT.of h1) (.cons (.str _) (.cons (.int _) .nil)), by simp [SeqAt.shaped, PyData.canLay0, PyData.canLayAll0, PyData.depth, PyData.depthAll, back_ok]⟩
  | chg m rem beh num text =>
    obtain ⟨a, t, b, bs, rfl, h1, h2, h3, h4, h5⟩ := h
    have hb : ∃ y : PyData, Dp K H b y ∧ y.canLay0 = true ∧ y.depth ≤ 1 := by
      cases beh with
      | none =>
        have e : b = .non := h5
        subst e
        exact ⟨.none, .non, by simp [PyData.canLay0], by simp [PyData.depth]⟩
      | some mk => exact ⟨mkD mk, dp_mk h5, mkD_lay mk, by rw [mkD_depth]; exact Nat.le_refl _⟩
    obtain ⟨y, y1, y2, y3⟩ := hb
    have l1 := mkDs_lay (bs.map (·.2))
    have l2 := mkDs_depth (bs.map (·.2))
    refine ⟨.tuple [.str "change", .str m, .tuple ((bs.map (·.2)).map mkD), y, .int num, .str text], .tup (SqT.of h1) (.cons (.str _) (.cons (.str _) (.cons (.tup (SqT.of h2) (dp_all h4)) (.cons y1 (.cons (.int _) (.cons (.str _) .nil)))))), ?_⟩
    unfold SeqAt.shaped
    rw [Bool.and_eq_true]
    constructor
    · obtain ⟨_, _, _, k1, k2⟩ := hdb
      simp only [PyData.canLay0, PyData.canLayAll0, l1, y2, change_ok, k1, k2, Bool.and_self]
    · refine decide_eq_true ?_
      simp only [PyData.depth, PyData.depthAll]
      omega
def rLenSeq (K : PySem.W.Frag) : List V → Hp → VK → Prop := fun xs H Q => ∃ p ys, xs = [.ref p] ∧ (SqL K H p ys ∨ SqT K H p ys) ∧ Q (.int ys.length) H
def spLForces : Sp := fun vs H Q _ => ∃ (a : Addr) (ds : List Deed), vs = [.ref a] ∧ RowAt H a ds ∧ ds.length ≤ 100 ∧ (∀ d ∈ ds, DB d) ∧ ∀ (H' : Hp) (q : Addr) (bs : List Bool), Same H H' → H' q = some (.lst (bs.map V.bl)) → bs.length = ds.length → Q (.ref q) H'
section
variable {P : Program} {w : World} {K : PySem.W.Frag} {mg : Str → Option Value} {base : Heap}
theorem scLI : FnScope ["_law_replica", "_law_deed_here", "_law_found", "_law_behind", "_law_k"] ["_law_replica", "_law_deed_here"] (defScope sLInserted) := ⟨rfl, rfl, rfl, by decide +kernel, rfl, by decide +kernel, by decide +kernel⟩
theorem cal_lins {f : Addr} {fd : FuncData} (F : Fun K "_law_inserted" "_law_inserted" sLInserted f fd) (hm : mg "_law_inserted" = some (.ref f)) (T : Txt K mg) : Cal P w K mg base 1 "_law_inserted" spIns := by
  refine ⟨f, fd, ["_law_replica", "_law_deed_here"], F.ok scLI (fun vs H Q E h => ?_) (fun cdv A outer s H vs Q E hr h => ?_), hm, F.kp, F.binds fun _ _ _ _ _ _ us hl => match us, hl with | [_, _], _ => rfl⟩
  · obtain ⟨r, dv, m, rem, beh, num, text, rfl, _⟩ := h
    rfl
  · obtain ⟨r, dv, m, rem, beh, num, text, rfl, hD, hz, k⟩ := h
    have nd := scLI.nd
    refine ⟨_, pss_cons (ps_set (i := 2) nd rfl (Or.inl rfl) (pe_lst pa_nil))
      (pss_cons (ps_set (i := 3) nd rfl (Or.inl rfl) (pe_ix ix_tup (pv 1) pe_int (fun _ _ => rfl)))
      (pss_cons (ps_for PassesOwn.never rfl (pi_range1 rfl T.range (pa_cons (pe_callB call_len_str (by rfl) T.len PySem.boot_len (pa_cons (pe_ix ix_tup (pv 1) pe_int (fun _ _ => rfl)) pa_nil)) pa_nil)) (pg_name (i := 4) nd rfl (Or.inl rfl))
        (pss_cons (ps_expr (pe_bm PySem.F.plainAttrs_list PySem.F.slot_list_append PySem.F.type_list_append mt_append (pv 2) (pa_cons (pe_tup (pa_cons (pe_tup (pa_cons (pe_op op_add (pe_ix ix_tup (pv 1) pe_int (fun _ _ => rfl)) (pv 4)) (pa_cons (pv 0) pa_nil)))
            (pa_cons (pv 3) (pa_cons (pe_item_str (pe_ix ix_tup (pv 1) pe_int (fun _ _ => rfl)) (pv 4) (fun _ _ => rfl)) pa_nil)))) pa_nil)))
        (pss_one (ps_set (i := 3) nd rfl (Or.inl rfl) (pe_tup (pa_cons (pe_op op_add (pe_ix ix_tup (pv 1) pe_int (fun _ _ => rfl)) (pv 4)) (pa_cons (pv 0) pa_nil)))))))
      (pss_one (ps_ret (pv 2))))), ?_⟩
    refine ⟨Nat.zero_le _, fun p hp => ?_⟩
    have s0 : Same H (upd H p (.lst [])) := Same.new hp
    obtain ⟨a, t, b, bs, rfl, ha, ht, hb, hm, hbe⟩ := id hD
    have ha1 := s0 _ _ ha
    have hsz : text.length ≤ sizeLine := Nat.le_trans hz (by decide)
    refine ⟨_, rfl, a, _, 3, b, rfl, rfl, SqT.of ha1, atI_nat (j := 3) rfl, ?_⟩
    refine ⟨_, rfl, a, _, 5, _, rfl, rfl, SqT.of ha1, atI_nat (j := 5) rfl, text, rfl, hsz, ?_⟩
    have hlen : text.length = text.cps.size := rfl
    refine ⟨_, rfl, by omega, by omega, ?_⟩
    have e0 : (((text.length : Nat) : Int)).toNat = text.cps.size := by omega
    rw [e0]
    refine for_range (lo := 0) (n := text.cps.size) (fun i σ H1 => ∃ (bv : V) (us : List V) (w4 : Option V), σ = [some (.int r), some (.ref a), some (.ref p), some bv, w4] ∧ Same H H1 ∧ H1 p = some (.lst us) ∧ Paired (IsIns H1) us ((insE r num beh text.cps.toList).take i) ∧
        IsOM H1 bv (if i = 0 then beh else some (num + (i : Int) - 1, r))) ?_ ?_ ?_
    · exact ⟨b, [], none, rfl, s0, upd_same, .nil, hbe.tt (TT.of s0)⟩
    · rintro i σ H1 hi ⟨bv, us, w4, rfl, s1, hL, hP, hO⟩
      have ez : (0 : Int) + (i : Nat) = ((i : Nat) : Int) := by omega
      rw [ez]
      have gc : text.cps[i]? = some text.cps[i] := Array.getElem?_eq_getElem hi
      have gc2 : text.cps.toList[i]? = some text.cps[i] := by rw [Array.getElem?_toList]; exact gc
      have hai := s1 _ _ ha
      refine ⟨_, rfl, .inl ⟨rfl, _, SqL.of hL⟩, ?_⟩
      refine ⟨_, rfl, a, _, 4, _, rfl, rfl, SqT.of hai, atI_nat (j := 4) rfl, _, rfl, _, _, rfl, rfl, _, rfl, (by show 2 ≤ sizeLine; decide), fun m1 hm1 => ?_⟩
      have e1 := Same.new (H := H1) (o := .tup [.int (num + (i : Nat)), .int r]) hm1
      refine ⟨_, rfl, _, rfl, a, _, 5, _, rfl, rfl, SqT.of (e1 _ _ hai), atI_nat (j := 5) rfl, _, rfl, text, _, text.cps[i], rfl, rfl, by omega, by omega, by omega, ?_, by show 3 ≤ sizeLine; decide, fun m2 hm2 => ?_⟩
      · rw [Int.toNat_natCast]
        exact gc
      have e2 := Same.new (H := upd H1 m1 (.tup [.int (num + (i : Nat)), .int r])) (o := .tup [.ref m1, bv, .str ⟨#[text.cps[i]]⟩]) hm2
      have hL2 := e2 _ _ (e1 _ _ hL)
      have hl : us.length = i := by
        rw [Paired.length hP, List.length_take, insE_len, Array.length_toList]
        omega
      refine ⟨p, us, _, rfl, rfl, hL2, by rw [hl]; exact small1000 (by omega), ?_⟩
      have s3 := s1.trans (e1.trans e2)
      have tput : TT _ (upd _ p (.lst (us ++ [.ref m2]))) := TT.putL hL2
      have s4 := same_put (o' := .lst (us ++ [.ref m2])) s3 hp
      refine ⟨_, rfl, a, _, 4, _, rfl, rfl, SqT.of (s4 _ _ ha), atI_nat (j := 4) rfl, _, rfl, _, _, rfl, rfl, _, rfl, (by show 2 ≤ sizeLine; decide), fun m3 hm3 => ?_⟩
      have e5 := Same.new (o := .tup [.int (num + (i : Nat)), .int r]) hm3
      have tA := (TT.of (e1.trans e2)).trans (tput.trans (TT.of e5))
      refine ⟨.ref m3, us ++ [.ref m2], _, rfl, s4.trans e5, e5 _ _ upd_same, ?_, ?_⟩
      · rw [take_snoc (insE_get gc2)]
        refine Paired.snoc (p_mono hP fun v z h => h.tt tA) ⟨m2, .ref m1, bv, rfl, e5 _ _ (tput _ _ upd_same), ⟨m1, rfl, e5 _ _ (tput _ _ (e2 _ _ upd_same))⟩, hO.tt tA⟩
      · have e : num + ((i + 1 : Nat) : Int) - 1 = num + (i : Int) := by omega
        rw [if_neg (Nat.succ_ne_zero i), e]
        exact ⟨m3, rfl, upd_same⟩
    · rintro σ H1 ⟨bv, us, w4, rfl, s1, hL, hP, hO⟩
      refine ⟨_, rfl, k H1 p us s1 hp hL ?_⟩
      rw [List.take_of_length_le (by rw [insE_len, Array.length_toList]; exact Nat.le_refl _)] at hP
      exact hP
abbrev nLF : List Str := ["_law_row_here", "_law_forces_here", "_law_k", "_law_place", "_law_takers", "_law_j"]
theorem scLF : FnScope nLF ["_law_row_here"] (defScope sLForces) := ⟨rfl, rfl, rfl, by decide +kernel, rfl, by decide +kernel, by decide +kernel⟩
theorem cal_lforces {f : Addr} {fd : FuncData} (F : Fun K "_law_forces" "_law_forces" sLForces f fd) (hm : mg "_law_forces" = some (.ref f)) (T : Txt K mg) : Cal P w K mg base 1 "_law_forces" spLForces := by
  refine ⟨f, fd, ["_law_row_here"], F.ok scLF (fun vs H Q E h => ?_) (fun cdv A outer s H vs Q E hr h => ?_), hm, F.kp, F.binds fun _ _ _ _ _ _ us hl => match us, hl with | [_], _ => rfl⟩
  · obtain ⟨a, ds, rfl, _⟩ := h
    rfl
  · obtain ⟨a, ds, rfl, ⟨vs, hv1, hv2⟩, hz, hdb, k⟩ := h
    have nd := scLF.nd
    have hu0 := hr.units
    refine ⟨_, pss_cons (ps_set (i := 1) nd rfl (Or.inr rfl) (pe_lst pa_nil))
      (pss_cons (ps_for PassesOwn.never rfl (pi_range1 rfl T.range (pa_cons (pe_callB call_len_seq (by rfl) T.len PySem.boot_len (pa_cons (pv 0) pa_nil)) pa_nil)) (pg_name (i := 2) nd rfl (Or.inl rfl))
        (pss_cons (ps_set (i := 3) nd rfl (Or.inr rfl) (pe_op op_sub (pe_callB call_len_seq (by rfl) T.len PySem.boot_len (pa_cons (pv 0) pa_nil)) (pv 2)))
        (pss_cons (ps_setLc (i := 4) (own := [("_law_j", 5)]) (g := gName 5) (te := tVar 5)
            (tt := tAnd (tB (tOp (rIxL K) (tVar 1) (tVar 5))) (tB (tOp (rEqD K) (tOp (rIxL K) (tVar 0) (tOp (rI0 fun i j => .int (i - j)) (tOp (rI0 fun i j => .int (i - j)) (tCB (rLenSeq K) (tCons (tVar 0) tNil)) (tC (.int 1))) (tVar 5))) (tTup (tCons (tC (.str "back")) (tCons (tVar 3) tNil))))))
            rfl nd rfl rfl (sw_true rfl rfl rfl (by decide +kernel)) (pi_range1 rfl T.range (pa_cons (pe_callB call_len_seq (by rfl) T.len PySem.boot_len (pa_cons (pv 1) pa_nil)) pa_nil)) (blkOk_by (N := nLF) (sc := defScope sLForces) (by decide +kernel))
            (fun _ _ _ _ _ => pg_name (i := 5) nd rfl (Or.inl rfl))
            (fun _ _ _ _ _ => pts_one (PW.pt (pw_and (pt_val (pe_ix ix_list (pv 1) (pv 5) (fun _ _ => rfl))) (pw_and1 (pt_cmpR (op_eqD hu0) (pe_ix ix_list (pv 0) (pe_op op_sub (pe_op op_sub (pe_callB call_len_seq (by rfl) T.len PySem.boot_len (pa_cons (pv 0) pa_nil)) pe_int) (pv 5)) (fun _ _ => rfl)) (pe_tup (pa_cons pe_str (pa_cons (pv 3) pa_nil))) (nomark _))))))
            (fun _ _ _ _ _ => pv 5))
        (pss_one (ps_expr (pe_bm PySem.F.plainAttrs_list PySem.F.slot_list_append PySem.F.type_list_append mt_append (pv 1) (pa_cons (pe_cmpR op_eq (pe_callB call_len_seq (by rfl) T.len PySem.boot_len (pa_cons (pv 4) pa_nil)) pe_int (nomark _)) pa_nil))))) ))
      (pss_one (ps_ret (pe_lc (own := [("_law_k", 2)]) (g := gName 2) (tt := tYes) (te := tOp (rIxL K) (tVar 1) (tOp (rI0 fun i j => .int (i - j)) (tOp (rI0 fun i j => .int (i - j)) (tCB (rLenSeq K) (tCons (tVar 0) tNil)) (tC (.int 1))) (tVar 2))) rfl nd
          (pi_range1 rfl T.range (pa_cons (pe_callB call_len_seq (by rfl) T.len PySem.boot_len (pa_cons (pv 0) pa_nil)) pa_nil)) (blkOk_by (N := nLF) (sc := defScope sLForces) (by decide +kernel)) (fun _ _ _ _ _ => pg_name (i := 2) nd rfl (Or.inl rfl)) (fun _ _ _ _ _ => pts_nil)
          (fun _ _ _ _ _ => pe_ix ix_list (pv 1) (pe_op op_sub (pe_op op_sub (pe_callB call_len_seq (by rfl) T.len PySem.boot_len (pa_cons (pv 0) pa_nil)) pe_int) (pv 2)) (fun _ _ => rfl)))))), ?_⟩
    have hvl := Paired.length hv2
    have hsz : vs.length ≤ 100 := by omega
    refine ⟨Nat.zero_le _, fun fl hfl => ?_⟩
    have s0 := Same.new (o := .lst []) hfl
    refine ⟨_, rfl, a, _, rfl, .inl (SqL.of (s0 _ _ hv1)), _, rfl, by omega, by omega, ?_⟩
    have e0 : ((vs.length : Nat) : Int).toNat = vs.length := by omega
    rw [e0]
    refine for_range (lo := 0) (n := vs.length) (fun i σ H1 => ∃ (w2 w3 w4 : Option V) (bs : List Bool), σ = [some (.ref a), some (.ref fl), w2, w3, w4, none] ∧ Same H H1 ∧ H1 fl = some (.lst (bs.map V.bl)) ∧ bs.length = i) ?_ ?_ ?_
    · exact ⟨none, none, none, [], rfl, s0, upd_same, rfl⟩
    · rintro i σ H1 hi ⟨w2, w3, w4, bs, rfl, s1, hf1, hbl⟩
      have ez : (0 : Int) + (i : Nat) = ((i : Nat) : Int) := by omega
      rw [ez]
      have lb : (bs.map V.bl).length = i := by rw [List.length_map]; exact hbl
      refine ⟨_, rfl, a, _, rfl, .inl (SqL.of (s1 _ _ hv1)), _, rfl, _, _, rfl, rfl, ?_⟩
      refine ⟨_, rfl, fl, _, rfl, .inl (SqL.of hf1), _, rfl, by omega, by omega, fun D hD => ?_⟩
      have e1 : (((bs.map V.bl).length : Nat) : Int).toNat = i := by omega
      rw [e1]
      refine lc_range (lo := 0) (n := i) (fun j H2 => Same H1 H2 ∧ ∃ acc : List V, H2 D = some (.lst acc) ∧ acc.length ≤ j) ?_ ?_ ?_
      · exact ⟨Same.new hD, [], upd_same, Nat.zero_le _⟩
      · rintro j H2 hj ⟨s2, acc, hacc, hal⟩
        have ej : (0 : Int) + (j : Nat) = ((j : Nat) : Int) := by omega
        rw [ej]
        have hjb : j < bs.length := by omega
        have gb : (bs.map V.bl)[j]? = some (V.bl bs[j]) := by rw [List.getElem?_map, List.getElem?_eq_getElem hjb]; rfl
        generalize bs[j] = bj at gb
        have no : Same H1 H2 ∧ ∃ acc : List V, H2 D = some (.lst acc) ∧ acc.length ≤ j + 1 := ⟨s2, acc, hacc, by omega⟩
        refine ⟨rfl, _, rfl, _, rfl, fl, _, _, _, rfl, rfl, SqL.of (s2 _ _ hf1), atI_nat gb, bj, rfl, ?_⟩
        cases bj with
        | false => exact iteF (iteF no)
        | true =>
          refine iteT ?_
          have s02 := s1.trans s2
          have gv : vs[vs.length - 1 - j]? = some (vs[vs.length - 1 - j]'(by omega)) := List.getElem?_eq_getElem (by omega)
          obtain ⟨d, gd, hdv⟩ := p_get hv2 gv
          have ix : ((vs.length : Int) - 1 - ((j : Nat) : Int)) = ((vs.length - 1 - j : Nat) : Int) := by omega
          refine ⟨_, rfl, _, rfl, a, _, rfl, .inl (SqL.of (s02 _ _ hv1)), _, _, rfl, rfl, _, rfl, _, _, rfl, rfl, a, vs, _, _, rfl, rfl, SqL.of (s02 _ _ hv1), by rw [ix]; exact atI_nat gv, _, rfl, by show 2 ≤ sizeLine; decide, fun t ht => ?_⟩
          have s3 := Same.new (o := .tup [.str "back", .int ((vs.length : Int) - ((i : Nat) : Int))]) ht
          obtain ⟨x, x1, x2⟩ := dp_deed (K := K) ((hdv.tt (TT.of s02)).tt (TT.of s3)) (hdb d (List.mem_of_getElem? gd))
          refine ⟨x, .tuple [.str "back", .int ((vs.length : Int) - ((i : Nat) : Int))], x1, .tup (SqT.of upd_same) (.cons (.str _) (.cons (.int _) .nil)), x2, by simp [SeqAt.shaped, PyData.canLay0, PyData.canLayAll0, PyData.depth, PyData.depthAll, back_ok], _, rfl, ?_⟩
          have hacc3 := s3 _ _ hacc
          refine ite2 (fun hc => ?_) (fun hc => ?_)
          · refine ⟨_, rfl, acc, hacc3, Nat.lt_of_lt_of_le (by omega : _ < 10000) (by decide), same_put (s2.trans s3) hD, _, upd_same, ?_⟩
            rw [List.length_append, List.length_singleton]
            omega
          · exact ⟨s2.trans s3, acc, hacc3, by omega⟩
      · rintro H2 ⟨s2, acc, hacc, hal⟩
        have hf2 := s2 _ _ hf1
        refine ⟨_, rfl, .inl ⟨rfl, _, SqL.of hf2⟩, _, rfl, D, _, rfl, .inl (SqL.of hacc), rfl, fl, _, _, rfl, rfl, hf2, by rw [lb]; exact small1000 (by omega), ?_⟩
        refine ⟨_, _, _, bs ++ [decide (V.int (acc.length : Nat) = V.int 0)], rfl, same_put (s1.trans s2) hfl, by rw [upd_same, List.map_append]; rfl, ?_⟩
        rw [List.length_append, List.length_singleton, hbl]
    · rintro σ H1 ⟨w2, w3, w4, bs, rfl, s1, hf1, hbl⟩
      have lb : (bs.map V.bl).length = vs.length := by rw [List.length_map]; exact hbl
      refine ⟨_, rfl, a, _, rfl, .inl (SqL.of (s1 _ _ hv1)), _, rfl, by omega, by omega, fun D hD => ?_⟩
      rw [e0]
      refine lc_range (lo := 0) (n := vs.length) (fun j H2 => Same H1 H2 ∧ ∃ acc : List Bool, H2 D = some (.lst (acc.map V.bl)) ∧ acc.length = j) ?_ ?_ ?_
      · exact ⟨Same.new hD, [], upd_same, rfl⟩
      · rintro j H2 hj ⟨s2, acc, hacc, hal⟩
        have ej : (0 : Int) + (j : Nat) = ((j : Nat) : Int) := by omega
        rw [ej]
        have hjb : vs.length - 1 - j < bs.length := by omega
        have gb : (bs.map V.bl)[vs.length - 1 - j]? = some (V.bl bs[vs.length - 1 - j]) := by rw [List.getElem?_map, List.getElem?_eq_getElem hjb]; rfl
        have ix : ((vs.length : Int) - 1 - ((j : Nat) : Int)) = ((vs.length - 1 - j : Nat) : Int) := by omega
        have la : (acc.map V.bl).length = j := by rw [List.length_map]; exact hal
        refine ⟨rfl, _, rfl, _, rfl, a, _, rfl, .inl (SqL.of (s2 _ _ (s1 _ _ hv1))), _, _, rfl, rfl, _, rfl, _, _, rfl, rfl, fl, _, _, _, rfl, rfl, SqL.of (s2 _ _ hf1), by rw [ix]; exact atI_nat gb, ?_⟩
        refine ⟨_, hacc, by rw [la]; exact small1000 (by omega), same_put s2 hD, acc ++ [bs[vs.length - 1 - j]], by rw [upd_same, List.map_append]; rfl, ?_⟩
        rw [List.length_append, List.length_singleton, hal]
      · rintro H2 ⟨s2, acc, hacc, hal⟩
        exact k H2 D acc (s1.trans s2) hacc (by omega)
end
end Q3

set_option Elab.async false
set_option linter.all false
set_option maxRecDepth 100000
set_option maxHeartbeats 4000000
/-! the law's own changes -/
namespace Q3
open PySem PySem.Spec PyProof.Rows L2 LamX
/-- at a a list of rows -/
def RowsL (H : Hp) (a : Addr) (rows : List (List Deed)) : Prop := ∃ bs : List Addr, H a = some (.lst (bs.map V.ref)) ∧ Paired (RowAt H) bs rows
theorem RowsL.ex {T : List (Addr × Str)} {H H' : Hp} {a : Addr} {rows : List (List Deed)} (h : RowsL H a rows) (e : Ex T H H') : RowsL H' a rows := by
  obtain ⟨bs, h1, h4⟩ := h
  exact ⟨bs, e.at h1, p_mono h4 fun _ _ q => q.ex e⟩
theorem RowsL.same {H H' : Hp} {a : Addr} {rows : List (List Deed)} (h : RowsL H a rows) (e : Same H H') : RowsL H' a rows := h.ex (T := []) (Ex.of e)
theorem RowsAt.l {H : Hp} {a : Addr} {rows : List (List Deed)} (h : RowsAt H a rows) : RowsL H a rows := let ⟨bs, h1, _, _, h4⟩ := h; ⟨bs, h1, h4⟩
def chD (rows : List (List Deed)) (m : Str) (n : Nat) : List (Nat × Deed) := (List.range n).flatMap fun r => ((rows.getD r []).filter (isChg m)).map fun d => (r, d)
theorem chD_succ (rows : List (List Deed)) (m : Str) (n : Nat) : chD rows m (n + 1) = chD rows m n ++ ((rows.getD n []).filter (isChg m)).map fun d => (n, d) := by
  unfold chD
  rw [List.range_succ, List.flatMap_append]
  simp
abbrev bare (c : Nat × Deed × Bool) : Nat × Deed := (c.1, c.2.1)
theorem chTo_bare (rows : List (List Deed)) (m : Str) : ∀ n, (chTo rows m n).map bare = chD rows m n
  | 0 => rfl
  | n + 1 => by
    rw [chTo_succ, chD_succ, List.map_append, chTo_bare rows m n]
    congr 1
    unfold pick
    rw [List.map_map]
    have key : ∀ (ds : List Deed) (bs : List Bool), bs.length = ds.length → ((ds.zip bs).filter fun q => isChg m q.1).map (fun q => (n, q.1)) = (ds.filter (isChg m)).map fun d => (n, d) := by
      intro ds
      induction ds with
      | nil => intro bs _; rfl
      | cons d r ih =>
        intro bs h
        cases bs with
        | nil => cases h
        | cons b t =>
          rw [List.zip_cons_cons, List.filter_cons, List.filter_cons]
          have z := ih t (by simpa using h)
          cases q : isChg m d with
          | true => simp only [q, if_true, List.map_cons, z]
          | false => simp only [q, Bool.false_eq_true, if_false, z]
    exact key _ _ (forces_len _)
theorem chD_le {rows : List (List Deed)} {m : Str} (h : ∀ ds ∈ rows, ds.length ≤ 100) (n : Nat) : (chD rows m n).length ≤ n * 100 := by
  rw [← chTo_bare, List.length_map]
  exact chTo_le h n
def spLChanges : Sp := fun vs H Q _ => ∃ (a : Addr) (rows : List (List Deed)) (m : Str), vs = [.ref a, .str m] ∧ RowsL H a rows ∧ WB rows ∧
  ∀ (H' : Hp) (q : Addr) (us : List V) (fs : List (Nat × Deed × Bool)), Same H H' → H q = none → H' q = some (.lst us) → Paired (IsCh H') us fs → fs.map bare = chD rows m 8 → Q (.ref q) H'
section
variable {P : Program} {w : World} {K : PySem.W.Frag} {mg : Str → Option Value} {base : Heap}
theorem scLC : FnScope ["_law_rows", "_law_module", "_law_found", "_law_replica", "_law_forces_here", "_law_k"] ["_law_rows", "_law_module"] (defScope sLChanges) := ⟨rfl, rfl, rfl, by decide +kernel, rfl, by decide +kernel, by decide +kernel⟩
theorem cal_lchanges {f : Addr} {fd : FuncData} (F : Fun K "_law_changes" "_law_changes" sLChanges f fd) (hm : mg "_law_changes" = some (.ref f)) (T : Txt K mg) (GF : Cal P w K mg base 1 "_law_forces" spLForces) : Cal P w K mg base 2 "_law_changes" spLChanges := by
  refine ⟨f, fd, ["_law_rows", "_law_module"], F.ok scLC (fun vs H Q E h => ?_) (fun cdv A outer s H vs Q E hr h => ?_), hm, F.kp, F.binds fun _ _ _ _ _ _ us hl => match us, hl with | [_, _], _ => rfl⟩
  · obtain ⟨a, rows, m, rfl, _⟩ := h
    rfl
  · obtain ⟨a, rows, m, rfl, ⟨bs, ha, hRP⟩, hWB, k⟩ := h
    have nd := scLC.nd
    refine ⟨_, pss_cons (ps_set (i := 2) nd rfl (Or.inl rfl) (pe_lst pa_nil))
      (pss_cons (ps_for PassesOwn.never rfl (pi_range1 rfl T.range (pa_cons pe_int pa_nil)) (pg_name (i := 3) nd rfl (Or.inl rfl))
        (pss_cons (ps_set (i := 4) nd rfl (Or.inl rfl) (pe_f GF hr (by decide) rfl (pa_cons (pe_ix ix_list (pv 0) (pv 3) (fun _ _ => rfl)) pa_nil)))
        (pss_one (ps_for PassesOwn.never rfl (pi_range1 rfl T.range (pa_cons (pe_callB call_len_seq (by rfl) T.len PySem.boot_len (pa_cons (pe_ix ix_list (pv 0) (pv 3) (fun _ _ => rfl)) pa_nil)) pa_nil)) (pg_name (i := 5) nd rfl (Or.inl rfl))
          (pss_one (ps_if (PW.pt (pw_and (pt_cmpR op_eq (pe_ix ix_tup (pe_ix ix_list (pe_ix ix_list (pv 0) (pv 3) (fun _ _ => rfl)) (pv 5) (fun _ _ => rfl)) pe_int (fun _ _ => rfl)) pe_str (nomark _))
              (pw_and1 (pt_cmpR op_eq (pe_ix ix_tup (pe_ix ix_list (pe_ix ix_list (pv 0) (pv 3) (fun _ _ => rfl)) (pv 5) (fun _ _ => rfl)) pe_int (fun _ _ => rfl)) (pv 1) (nomark _)))))
            (pss_one (ps_expr (pe_bm PySem.F.plainAttrs_list PySem.F.slot_list_append PySem.F.type_list_append mt_append (pv 2) (pa_cons (pe_tup (pa_cons (pv 3) (pa_cons (pe_ix ix_list (pe_ix ix_list (pv 0) (pv 3) (fun _ _ => rfl)) (pv 5) (fun _ _ => rfl)) (pa_cons (pe_ix ix_list (pv 4) (pv 5) (fun _ _ => rfl)) pa_nil)))) pa_nil)))) pss_nil))))))
      (pss_one (ps_ret (pv 2)))), ?_⟩
    refine ⟨Nat.zero_le _, fun l hl => ?_⟩
    have s0 := Same.new (o := .lst []) hl
    refine ⟨8, rfl, by decide, by decide, ?_⟩
    refine for_range (lo := 0) (n := 8) (fun i σ H1 => ∃ (w3 w4 w5 : Option V) (us : List V) (fs : List (Nat × Deed × Bool)), σ = [some (.ref a), some (.str m), some (.ref l), w3, w4, w5] ∧ Same H H1 ∧ H1 l = some (.lst us) ∧ Paired (IsCh H1) us fs ∧ fs.map bare = chD rows m i) ?_ ?_ ?_
    · exact ⟨none, none, none, [], [], rfl, s0, upd_same, .nil, rfl⟩
    · rintro i σ H1 hi ⟨w3, w4, w5, us, fs, rfl, s1, hL, hP, hfs⟩
      have ez : (0 : Int) + (i : Nat) = ((i : Nat) : Int) := by omega
      rw [ez]
      have h8 := hWB.len
      have gr : rows[i]? = some rows[i] := List.getElem?_eq_getElem (by omega)
      have gd : rows.getD i [] = rows[i] := by rw [List.getD_eq_getElem?_getD, gr]; rfl
      have hmr : rows[i] ∈ rows := List.getElem_mem _
      have hzr := hWB.row _ hmr
      have hdb := hWB.deed _ hmr
      obtain ⟨b, gb, hRA⟩ := p_get' hRP gr
      obtain ⟨vs, hv1, hv2⟩ := id hRA
      have ga : (bs.map V.ref)[i]? = some (V.ref b) := by rw [List.getElem?_map, gb]; rfl
      have hvl := Paired.length hv2
      generalize rows[i] = ds at gd hmr hzr hdb hv2 hvl hRA
      refine ⟨_, rfl, _, rfl, a, _, _, _, rfl, rfl, SqL.of (s1 _ _ ha), atI_nat ga, b, ds, rfl, hRA.same s1, hzr, hdb, fun H2 q fb s2 hq hfl => ?_⟩
      have s02 := s1.trans s2
      refine ⟨_, rfl, _, rfl, a, _, _, _, rfl, rfl, SqL.of (s02 _ _ ha), atI_nat ga, b, _, rfl, .inl (SqL.of (s02 _ _ hv1)), _, rfl, by omega, by omega, ?_⟩
      have e0 : ((vs.length : Nat) : Int).toNat = vs.length := by omega
      rw [e0]
      have hlf : (fb.map V.bl).length = fb.length := List.length_map _
      refine for_range (lo := 0) (n := vs.length) (fun j σ H3 => ∃ (w5 : Option V) (us : List V) (fs : List (Nat × Deed × Bool)), σ = [some (.ref a), some (.str m), some (.ref l), some (.int (i : Nat)), some (.ref q), w5] ∧ Same H H3 ∧ H3 q = some (.lst (fb.map V.bl)) ∧ H3 l = some (.lst us) ∧ Paired (IsCh H3) us fs ∧
          fs.map bare = chD rows m i ++ ((ds.take j).filter (isChg m)).map fun d => (i, d)) ?_ ?_ ?_
      · exact ⟨w5, us, fs, rfl, s02, hq, s2 _ _ hL, p_mono hP fun _ _ z => z.tt (TT.of s2), by rw [hfs]; simp⟩
      · rintro j σ H3 hj ⟨w5, us, fs, rfl, s3, hq3, hL3, hP3, hfs3⟩
        have ej : (0 : Int) + (j : Nat) = ((j : Nat) : Int) := by omega
        rw [ej]
        have gv : vs[j]? = some vs[j] := List.getElem?_eq_getElem hj
        obtain ⟨d, gds, hdv⟩ := p_get hv2 gv
        obtain ⟨da, dxs, eda, hda, hd0⟩ := deed_tag (hdv.tt (TT.of s3))
        generalize vs[j] = dv at gv hdv eda
        subst eda
        have eT := take_snoc gds
        have hb3 := s3 _ _ hv1
        have ha3 := s3 _ _ ha
        have no : isChg m d = false → fs.map bare = chD rows m i ++ ((ds.take (j + 1)).filter (isChg m)).map fun d => (i, d) := fun e => by
          rw [eT, List.filter_append, List.filter_cons, e, if_neg Bool.false_ne_true, List.filter_nil, List.append_nil]
          exact hfs3
        refine ⟨_, rfl, _, rfl, a, _, _, _, rfl, rfl, SqL.of ha3, atI_nat ga, _, rfl, b, _, _, _, rfl, rfl, SqL.of hb3, atI_nat gv, da, _, _, _, rfl, rfl, SqT.of hda, atI_nat (j := 0) hd0, rfl, _, rfl, ?_⟩
        rw [tag_change]
        cases d with
        | bak pl => exact iteF (iteF ⟨_, us, fs, rfl, s3, hq3, hL3, hP3, no rfl⟩)
        | chg m' rem beh num text =>
          refine iteT ?_
          obtain ⟨da', tt, b', bs', ea, hda', _⟩ := id (hdv.tt (TT.of s3))
          cases ea
          refine ⟨_, rfl, _, rfl, a, _, _, _, rfl, rfl, SqL.of ha3, atI_nat ga, _, rfl, b, _, _, _, rfl, rfl, SqL.of hb3, atI_nat gv, da, _, _, _, rfl, rfl, SqT.of hda', atI_nat (j := 1) rfl, _, rfl, rfl, _, rfl, ?_⟩
          rw [dec_str]
          by_cases em : m' = m
          · rw [decide_eq_true em]
            refine iteT ?_
            have gf : (fb.map V.bl)[j]? = some (V.bl (fb[j]'(by omega))) := by rw [List.getElem?_map, List.getElem?_eq_getElem (by omega)]; rfl
            generalize (fb[j]'(by omega)) = fbj at gf
            refine ⟨_, rfl, .inl ⟨rfl, _, SqL.of hL3⟩, _, rfl, _, rfl, _, rfl, a, _, _, _, rfl, rfl, SqL.of ha3, atI_nat ga, _, rfl, b, _, _, _, rfl, rfl, SqL.of hb3, atI_nat gv, _, rfl, _, rfl, q, _, _, _, rfl, rfl, SqL.of hq3, atI_nat gf, (by show 3 ≤ sizeLine; decide), fun r1 hr1 => ?_⟩
            have s5 := Same.new (o := .tup [.int (i : Nat), .ref da, .bl fbj]) hr1
            have hL5 := s5 _ _ hL3
            have hlen : us.length < sizeLine := by
              have z := Paired.length hP3
              have z0 : (fs.map bare).length = fs.length := List.length_map _
              rw [hfs3, List.length_append, List.length_map] at z0
              have z1 := chD_le (rows := rows) (m := m) hWB.row i
              have z2 := List.length_filter_le (isChg m) (ds.take j)
              rw [List.length_take] at z2
              refine small1000 ?_
              omega
            refine ⟨l, us, _, rfl, rfl, hL5, hlen, ?_⟩
            have tp5 : TT _ (upd _ l (.lst (us ++ [.ref r1]))) := TT.putL hL5
            refine ⟨_, us ++ [.ref r1], fs ++ [(i, .chg m' rem beh num text, fbj)], rfl, same_put (s3.trans s5) hl, ?_, upd_same, ?_, ?_⟩
            · rw [upd_ne (fun z => by
                rw [z] at hq3
                have q1 := s5 _ _ hL3
                rw [hL3] at hq3
                have q2 : us = fb.map V.bl := by cases hq3; rfl
                have q3 := hP3
                rw [q2] at q3
                cases fb with
                | nil => simp at hfl; omega
                | cons fb1 fbr =>
                  cases q3 with
                  | cons h t =>
                    obtain ⟨_, _, e, _⟩ := h
                    cases e)]
              exact s5 _ _ hq3
            · exact Paired.snoc (p_mono hP3 fun _ _ z => (z.tt (TT.of s5)).tt tp5) ⟨r1, .ref da, rfl, tp5 _ _ upd_same, ((hdv.tt (TT.of s3)).tt (TT.of s5)).tt tp5⟩
            · have yes : isChg m (Deed.chg m' rem beh num text) = true := decide_eq_true em
              rw [eT, List.filter_append, List.filter_cons, yes, if_pos rfl, List.filter_nil, List.map_append, List.map_append, hfs3, List.append_assoc]
              rfl
          · rw [decide_eq_false em]
            exact iteF ⟨_, us, fs, rfl, s3, hq3, hL3, hP3, no (decide_eq_false em)⟩
      · rintro σ H3 ⟨w5, us, fs, rfl, s3, hq3, hL3, hP3, hfs3⟩
        refine ⟨_, _, _, us, fs, rfl, s3, hL3, hP3, ?_⟩
        rw [chD_succ, gd]
        rw [List.take_of_length_le (by omega)] at hfs3
        exact hfs3
    · rintro σ H1 ⟨w3, w4, w5, us, fs, rfl, s1, hL, hP, hfs⟩
      exact ⟨_, rfl, k H1 l us fs s1 hl hL hP hfs⟩
end
end Q3

set_option Elab.async false
set_option linter.all false
set_option maxRecDepth 100000
set_option maxHeartbeats 8000000
/-! the law's own row -/
namespace Q3
open PySem PySem.Spec PyProof.Rows L2 LamX
def IsR1 (H : Hp) (v : V) (m : Mark) : Prop := ∃ a x y z, v = .ref a ∧ H a = some (.tup [x, y, z]) ∧ IsMk H x m
theorem IsR1.tt {H H' : Hp} {v : V} {m : Mark} (h : IsR1 H v m) (t : TT H H') : IsR1 H' v m := by
  obtain ⟨a, x, y, z, h1, h2, h3⟩ := h
  exact ⟨a, x, y, z, h1, t _ _ h2, h3.tt t⟩
abbrev qLRow : Str := ("_law_row" : Str) ++ ".<locals>." ++ "<lambda>"
def spLRow (T : List (Addr × Str)) : Sp := fun vs H Q _ => ∃ (a : Addr) (rows : List (List Deed)) (m : Str), vs = [.ref a, .str m] ∧ RowsL H a rows ∧ WB rows ∧ (∀ fs : List (Nat × Deed × Bool), fs.map bare = chD rows m 8 → Good (srtE (fndL fs))) ∧ Tabs T H ∧
  ∀ (H' : Hp) (q : Addr) (us : List V) (fs : List (Nat × Deed × Bool)), fs.map bare = chD rows m 8 → Ex T H H' → H' q = some (.lst us) → Paired (IsR1 H') us (build (srtE (fndL fs))) → Q (.ref q) H'
theorem bare_mem {rows : List (List Deed)} {m : Str} {fs : List (Nat × Deed × Bool)} (e : fs.map bare = chD rows m 8) (b : WB rows) {c : Nat × Deed × Bool} (h : c ∈ fs) : DB c.2.1 ∧ c.1 < 8 ∧ isChg m c.2.1 = true := by
  have h1 : bare c ∈ fs.map bare := List.mem_map.mpr ⟨c, h, rfl⟩
  rw [e, ← chTo_bare] at h1
  obtain ⟨c', h2, h3⟩ := List.mem_map.mp h1
  have e1 : c'.1 = c.1 := congrArg (·.1) h3
  have e2 : c'.2.1 = c.2.1 := congrArg (·.2) h3
  have z1 := b.ch h2
  have z2 := chTo_mem h2
  rw [e1, e2] at z1
  rw [e2] at z2
  exact ⟨z1.1, z1.2, z2.2.2⟩
abbrev nLR : List Str := ["_law_rows", "_law_module", "_law_removed", "_law_found", "_law_replica", "_law_deed_here", "_law_force", "_law_mark", "_law_behind", "_law_char", "_law_row_here", "_law_at_here", "_law_each"]
/-- what holds ahead of the i-th turn of the second loop -/
def LRowInv (T : List (Addr × Str)) (H : Hp) (a : Addr) (m : Str) (rd fl pl qs : Addr) (vs2 rv : List V) (rms : List Mark) (S : List Ent) (i : Nat) (σ : L2.St) (H4 : Hp) : Prop :=
  ∃ (w4 w5 w6 w7 w8 w9 w11 : Option V) (ps : List V), σ = [some (.ref a), some (.str m), some (.ref rd), some (.ref fl), w4, w5, w6, w7, w8, w9, some (.ref pl), w11, none] ∧ Ex T H H4 ∧
    H4 qs = some (.lst vs2) ∧ Paired (IsFd H4) vs2 S ∧ H4 rd = some (.lst rv) ∧ Paired (IsMk H4) rv rms ∧ H4 pl = some (.lst ps) ∧ Paired (IsR1 H4) ps (build (S.take i))
section
variable {P : Program} {w : World} {K : PySem.W.Frag} {mg : Str → Option Value} {base : Heap}
theorem scLR : FnScope nLR ["_law_rows", "_law_module"] (defScope sLRow) := ⟨rfl, rfl, rfl, by decide +kernel, rfl, by decide +kernel, by decide +kernel⟩
theorem cal_lrow {T : List (Addr × Str)} {f c Pt : Addr} {fd : FuncData} (F : Fun K "_law_row" "_law_row" sLRow f fd) (hm : mg "_law_row" = some (.ref f)) (hc : fd.code = .ref c) (TB : TabB base mg c Pt) (hmT : (Pt, qLRow) ∈ T) (huT : ∀ q ∈ T, q.1 = Pt → q.2 = qLRow) (X : Txt K mg)
    (GC : Cal P w K mg base 2 "_law_changes" spLChanges) (GI : Cal P w K mg base 1 "_law_inserted" spIns) : Cal P w K mg base 3 "_law_row" (spLRow T) := by
  refine ⟨f, fd, ["_law_rows", "_law_module"], okC F hc scLR (fun vs H Q E h => ?_) (fun A outer s H vs Q E hr h => ?_), hm, F.kp, F.binds fun _ _ _ _ _ _ us hl => match us, hl with | [_, _], _ => rfl⟩
  · obtain ⟨a, rows, m, rfl, _⟩ := h
    rfl
  · obtain ⟨a, rows, m, rfl, hRL, hWB, hG, hT, k⟩ := h
    have nd := scLR.nd
    have hu65 : (A.deeper (envOfC "_law_row" (defScope sLRow) s.heap.objs.size f (.ref c))).units + 65 < cLine := by have := hr.un; omega
    have hr2 : Room 2 (A.deeper (envOfC "_law_row" (defScope sLRow) s.heap.objs.size f (.ref c))) := hr
    refine ⟨_, pss_cons (ps_set (i := 2) nd rfl (Or.inl rfl) (pe_lst pa_nil))
      (pss_cons (ps_set (i := 3) nd rfl (Or.inl rfl) (pe_lst pa_nil))
      (pss_cons (ps_for PassesOwn.never rfl (pi_list (pe_f GC hr (by decide) rfl (pa_cons (pv 0) (pa_cons (pv 1) pa_nil)))) (pg_tup rfl (pgs_cons (pg_name (i := 4) nd rfl (.inl rfl)) (pgs_cons (pg_name (i := 5) nd rfl (.inl rfl)) (pgs_cons (pg_name (i := 6) nd rfl (.inl rfl)) pgs_nil))))
        (pss_cons (ps_for PassesOwn.never rfl (pi_list (pe_f GI hr (by decide) rfl (pa_cons (pv 4) (pa_cons (pv 5) pa_nil)))) (pg_tup rfl (pgs_cons (pg_name (i := 7) nd rfl (.inl rfl)) (pgs_cons (pg_name (i := 8) nd rfl (.inl rfl)) (pgs_cons (pg_name (i := 9) nd rfl (.inl rfl)) pgs_nil))))
            (pss_one (ps_expr (pe_bm PySem.F.plainAttrs_list PySem.F.slot_list_append PySem.F.type_list_append mt_append (pv 3) (pa_cons (pe_tup (pa_cons (pv 7) (pa_cons (pv 8) (pa_cons (pv 9) (pa_cons (pv 6) pa_nil))))) pa_nil)))))
        (pss_one (ps_if (pt_val (pv 6)) (pss_one (ps_set (i := 2) nd rfl (Or.inl rfl) (pe_op op_cat (pv 2) (pe_callTy call_list_of (by rfl) X.list (by decide +kernel) (pa_cons (pe_ix ix_tup (pv 5) pe_int (fun _ _ => rfl)) pa_nil))))) pss_nil))))
      (pss_cons (ps_set (i := 10) nd rfl (Or.inl rfl) (pe_lst pa_nil))
      (pss_cons (ps_for PassesOwn.never rfl (pi_list (pe_sortK (X := (cxOf CX0 P w K mg base nLR "_law_row" (defScope sLRow) f (.ref c) A outer s H E).nox) (T := T) (c := c) (P := Pt) rfl X.sorted hr2 TB rfl hmT huT rfl rfl rfl rfl (by decide) (pa_cons (pv 3) pa_nil) (fun _ _ _ _ _ _ => rfl)))
          (pg_tup rfl (pgs_cons (pg_name (i := 7) nd rfl (.inl rfl)) (pgs_cons (pg_name (i := 8) nd rfl (.inl rfl)) (pgs_cons (pg_name (i := 9) nd rfl (.inl rfl)) (pgs_cons (pg_name (i := 6) nd rfl (.inl rfl)) pgs_nil)))))
        (pss_cons (ps_set (i := 11) nd rfl (Or.inl rfl) pe_int)
        (pss_cons (ps_if (pt_cmpR op_notN (pv 8) pe_non (nomark _)) (pss_one (ps_set (i := 11) nd rfl (Or.inl rfl) (pe_op op_add (pe_bm PySem.F.plainAttrs_list PySem.F.slot_list_index PySem.F.type_list_index (mt_indexD hu65)
              (pe_lc (own := [("_law_each", 12)]) (g := gName 12) (tt := tYes) (te := tOp (rIxT K) (tVar 12) (tC (.int 0))) rfl nd (pi_list (pv 10)) (blkOk_by (N := nLR) (sc := defScope sLRow) (by decide +kernel)) (fun _ _ _ _ _ => pg_name (i := 12) nd rfl (.inl rfl)) (fun _ _ _ _ _ => pts_nil)
                (fun _ _ _ _ _ => pe_ix ix_tup (pv 12) pe_int (fun _ _ => rfl))) (pa_cons (pv 8) pa_nil)) pe_int))) pss_nil)
        (pss_one (ps_expr (pe_bm PySem.F.plainAttrs_list PySem.F.slot_list_insert PySem.F.type_list_insert mt_insert (pv 10) (pa_cons (pv 11) (pa_cons (pe_tup (pa_cons (pv 7) (pa_cons (pv 9) (pa_cons (pe_and (pv 6) (pe_one (pe_cmpR (op_notInD hu65) (pv 7) (pv 2) (by rfl)))) pa_nil)))) pa_nil))))))))
      (pss_one (ps_ret (pv 10))))))), ?_⟩
    refine ⟨Nat.zero_le _, fun rd0 hrd0 => ?_⟩
    have s0 := Same.new (o := .lst []) hrd0
    refine ⟨Nat.zero_le _, fun fl hfl => ?_⟩
    have s01 := Same.new (o := .lst []) hfl
    have s1 := s0.trans s01
    have nrf0 : rd0 ≠ fl := ne_of_none upd_same hfl
    have hfl0 := s0.free hfl
    refine ⟨_, rfl, _, rfl, a, rows, m, rfl, hRL.same s1, hWB, fun H1 qc us0 fs0 s2 hqc hqc1 hPC hbare => ?_⟩
    have nqf : fl ≠ qc := ne_of_none upd_same hqc
    have hlenC : us0.length ≤ 800 := by
      rw [Paired.length hPC]
      have z : (fs0.map bare).length = fs0.length := List.length_map _
      rw [hbare] at z
      rw [← z]
      exact chD_le hWB.row 8
    refine ⟨qc, rfl, ⟨_, SqL.of hqc1⟩, ?_⟩
    refine for_list (K := K) (a := qc) (xs := us0) (fun i σ H2 => ∃ (w4 w5 w6 w7 w8 w9 : Option V) (rd : Addr) (rv : List V) (rms : List Mark) (fv : List V), σ = [some (.ref a), some (.str m), some (.ref rd), some (.ref fl), w4, w5, w6, w7, w8, w9, none, none, none] ∧ Same H H2 ∧ TT H1 H2 ∧ H2 qc = some (.lst us0) ∧
        H2 rd = some (.lst rv) ∧ Paired (IsMk H2) rv rms ∧ rv.length ≤ i * 10 ∧ rd ≠ fl ∧ H2 fl = some (.lst fv) ∧ Paired (IsFd H2) fv (fndL (fs0.take i))) ?_ ?_ ?_ ?_
    · exact ⟨none, none, none, none, none, none, rd0, [], [], [], rfl, s1.trans s2, TT.refl _, hqc1, s2 _ _ (s01 _ _ upd_same), .nil, Nat.zero_le _, nrf0, s2 _ _ upd_same, .nil⟩
    · rintro i σ H2 _ ⟨w4, w5, w6, w7, w8, w9, rd, rv, rms, fv, rfl, s3, t3, hq2, _⟩
      exact SqL.of hq2
    · rintro i x σ H2 gx ⟨w4, w5, w6, w7, w8, w9, rd, rv, rms, fv, rfl, s3, t3, hq2, hrd2, hRP, hrl, nrf, hf2, hP2⟩
      obtain ⟨⟨r, d, fo⟩, gc, hch⟩ := p_get hPC gx
      obtain ⟨ca, dv, rfl, hca, hdv⟩ := hch.tt t3
      have hmem := List.mem_of_getElem? gc
      obtain ⟨hdb, hr8, hcg⟩ := bare_mem hbare hWB hmem
      obtain ⟨rem, beh, num, text, rfl⟩ := isChg_shape hcg
      obtain ⟨hd1, hd2, _⟩ := hdb
      have hi8 : i < 800 := by have := lt_of_get gx; omega
      have hfndl : (fndL (fs0.take i)).length ≤ 8000 := by
        have z := fndL_len (l := fs0.take i) fun c hc => (bare_mem hbare hWB (List.mem_of_mem_take hc)).1
        rw [List.length_take] at z
        omega
      refine ⟨ca, _, rfl, SqT.of hca, rfl, _, _, rfl, _, _, rfl, _, _, rfl, rfl, ?_⟩
      refine ⟨_, rfl, _, rfl, (r : Nat), dv, m, rem, beh, num, text, rfl, hdv, by omega, fun H3 pi ui s4 hpi hpi3 hPi => ?_⟩
      have elen : ui.length = text.cps.size := by
        rw [Paired.length hPi, insE_len, Array.length_toList]
      have npf : pi ≠ fl := (ne_of_none hf2 hpi).symm
      refine ⟨pi, rfl, ⟨_, SqL.of hpi3⟩, ?_⟩
      refine for_list (K := K) (a := pi) (xs := ui) (fun j σ H4 => ∃ (w7 w8 w9 : Option V) (fv : List V), σ = [some (.ref a), some (.str m), some (.ref rd), some (.ref fl), some (.int (r : Nat)), some dv, some (.bl fo), w7, w8, w9, none, none, none] ∧ Same H H4 ∧ TT H3 H4 ∧ H4 qc = some (.lst us0) ∧ H4 pi = some (.lst ui) ∧
          H4 rd = some (.lst rv) ∧ H4 fl = some (.lst fv) ∧ Paired (IsFd H4) fv (fndL (fs0.take i) ++ (entsOf (r : Nat) fo (.chg m rem beh num text)).take j)) ?_ ?_ ?_ ?_
      · exact ⟨w7, w8, w9, fv, rfl, s3.trans s4, TT.refl _, s4 _ _ hq2, hpi3, s4 _ _ hrd2, s4 _ _ hf2, by rw [List.take_zero, List.append_nil]; exact p_mono hP2 fun _ _ z => z.tt (TT.of s4)⟩
      · rintro j σ H4 _ ⟨w7, w8, w9, fv, rfl, s5, t5, hq4, hpi4, _⟩
        exact SqL.of hpi4
      · rintro j y σ H4 gy ⟨w7, w8, w9, fv, rfl, s5, t5, hq4, hpi4, hrd4, hf4, hP4⟩
        obtain ⟨⟨mk, mb, cc⟩, ge, hy⟩ := p_get hPi gy
        obtain ⟨ia, ix, iy, rfl, hia, hix, hiy⟩ := hy.tt t5
        refine ⟨ia, _, rfl, SqT.of hia, rfl, _, _, rfl, _, _, rfl, _, _, rfl, rfl, ?_⟩
        refine ⟨_, rfl, .inl ⟨rfl, _, SqL.of hf4⟩, _, rfl, _, rfl, _, rfl, _, rfl, (by show 4 ≤ sizeLine; decide), fun t4 ht4 => ?_⟩
        have s6 := Same.new (o := .tup [ix, iy, .str ⟨#[cc]⟩, .bl fo]) ht4
        have hf6 := s6 _ _ hf4
        have hal : fv.length < sizeLine := by
          have z := Paired.length hP4
          rw [List.length_append, List.length_take] at z
          have := lt_of_get gy
          exact Nat.lt_of_lt_of_le (by omega : _ < 10000) (by decide)
        have tp : TT _ (upd _ fl (.lst (fv ++ [.ref t4]))) := TT.putL hf6
        have tA := (TT.of s6).trans tp
        refine ⟨fl, fv, _, rfl, rfl, hf6, hal, ?_⟩
        have gE : (entsOf (r : Nat) fo (.chg m rem beh num text))[j]? = some ⟨mk, mb, cc, fo⟩ := by
          show (List.map _ _)[j]? = _
          rw [List.getElem?_map, ge]
          rfl
        refine ⟨_, _, _, fv ++ [.ref t4], rfl, same_put (s5.trans s6) hfl0, t5.trans tA, ?_, ?_, ?_, upd_same, ?_⟩
        · rw [upd_ne nqf.symm]; exact s6 _ _ hq4
        · rw [upd_ne npf]; exact s6 _ _ hpi4
        · rw [upd_ne nrf]; exact s6 _ _ hrd4
        · rw [take_snoc gE, ← List.append_assoc]
          exact Paired.snoc (p_mono hP4 fun _ _ z => z.tt tA) ⟨t4, ix, iy, rfl, tp _ _ upd_same, hix.tt tA, hiy.tt tA⟩
      · rintro σ H4 ⟨w7, w8, w9, fv, rfl, s5, t5, hq4, hpi4, hrd4, hf4, hP4⟩
        have el : (entsOf (r : Nat) fo (.chg m rem beh num text)).length = ui.length := by
          show (List.map _ _).length = _
          rw [List.length_map, insE_len, Array.length_toList, elen]
        have et : (entsOf (r : Nat) fo (.chg m rem beh num text)).take ui.length = entsOf (r : Nat) fo (.chg m rem beh num text) := List.take_of_length_le (by rw [el]; exact Nat.le_refl _)
        rw [et] at hP4
        have eC := take_snoc gc
        have eF : fndL (fs0.take i) ++ entsOf (r : Nat) fo (.chg m rem beh num text) = fndL (fs0.take (i + 1)) := by
          rw [eC, fndL_app]
          congr 1
          show _ = entsOf (r : Nat) fo (.chg m rem beh num text) ++ []
          rw [List.append_nil]
        rw [eF] at hP4
        have tB := (TT.of s4).trans t5
        refine ⟨_, rfl, fo, rfl, ?_⟩
        cases fo with
        | false => exact iteF ⟨_, _, _, _, _, _, rd, rv, rms, fv, rfl, s5, t3.trans tB, hq4, hrd4, p_mono hRP fun _ _ z => z.tt tB, by omega, nrf, hf4, hP4⟩
        | true =>
          refine iteT ?_
          obtain ⟨da, td, bv, bs, rfl, hda, htd, hbr, hbm, hbe⟩ := hdv.tt tB
          refine ⟨_, rfl, _, rfl, da, _, _, _, rfl, rfl, SqT.of hda, atI_nat (j := 2) rfl, td, _, rfl, .inr (SqT.of htd), fun l2 hl2 => ?_⟩
          have s7 := Same.new (o := .lst (bs.map fun e => V.ref e.1)) hl2
          have hbl : bs.length = rem.length := by rw [← hbr, List.length_map]
          refine ⟨rd, l2, rv, _, rfl, rfl, s7 _ _ hrd4, upd_same, by rw [List.length_map]; exact Nat.le_trans (by omega : _ ≤ 10000) (by decide), fun r3 hr3 => ?_⟩
          have s8 := Same.new (o := .lst (rv ++ bs.map fun e => V.ref e.1)) hr3
          have s78 := s7.trans s8
          have t78 := TT.of s78
          have hM : Paired (IsMk H4) (bs.map fun e => V.ref e.1) (bs.map (·.2)) := by
            have key : ∀ bs : List (Addr × Int × Int), MksAt H4 bs → Paired (IsMk H4) (bs.map fun e => V.ref e.1) (bs.map (·.2)) := by
              intro bs
              induction bs with
              | nil => intro _; exact .nil
              | cons b t ih => intro h; exact .cons ⟨b.1, rfl, h b List.mem_cons_self⟩ (ih fun e he => h e (List.mem_cons_of_mem _ he))
            exact key bs hbm
          refine ⟨_, _, _, _, _, _, r3, rv ++ bs.map (fun e => V.ref e.1), rms ++ bs.map (·.2), fv, rfl, s5.trans s78, (t3.trans tB).trans t78, s78 _ _ hq4, upd_same, p_app (p_mono hRP fun _ _ z => (z.tt tB).tt t78) (p_mono hM fun _ _ z => z.tt t78), ?_, ?_, s78 _ _ hf4, p_mono hP4 fun _ _ z => z.tt t78⟩
          · rw [List.length_append, List.length_map]
            omega
          · exact (ne_of_none (s7 _ _ hf4) hr3).symm
    · rintro σ H2 ⟨w4, w5, w6, w7, w8, w9, rd, rv, rms, fv, rfl, s3, t3, hq2, hrd2, hRP, hrl, nrf, hf2, hP2⟩
      rw [List.take_of_length_le (by rw [Paired.length hPC]; exact Nat.le_refl _)] at hP2
      have hG := hG fs0 hbare
      have k := fun H' q us => k H' q us fs0 hbare
      generalize hS : srtE (fndL fs0) = S at hG k
      refine ⟨Nat.zero_le _, fun pl hpl => ?_⟩
      have s5 := s3.trans (Same.new (o := .lst []) hpl)
      have hpl0 := s3.free hpl
      have t5 : TT H2 (upd H2 pl (.lst [])) := TT.new (o := .lst []) hpl
      have keep5 : ∀ {b : Addr} {o : HO}, H2 b = some o → upd H2 pl (.lst []) b = some o := fun e => (Same.new (o := .lst []) hpl) _ _ e
      obtain ⟨zs, ez1, ez2, hz⟩ := with_addr (p_mono hP2 fun _ _ z => z.tt t5)
      refine ⟨_, rfl, fl, zs.map (fun z => (z.1, z.2.mark.1, z.2.mark.2)), rfl, ?_, hT.ext s5, ?_, fun H3 qs eX T3 hqs => ?_⟩
      · rw [List.map_map]
        show _ = some (HO.lst (zs.map fun z => V.ref z.1))
        rw [← ez1]
        exact keep5 hf2
      · intro e he
        obtain ⟨z, hzm, rfl⟩ := List.mem_map.mp he
        obtain ⟨_, _, _, e1, h1, ⟨mk, rfl, h2⟩, _⟩ := hz z hzm
        cases e1
        exact ⟨mk, _, h1, h2⟩
      have hsort := sort_addr (H := upd H2 pl (.lst [])) hz
      rw [← ez2, hS] at hsort
      generalize (((zs.map fun z => (z.1, z.2.mark.1, z.2.mark.2)).mergeSort fun (x y : Addr × Int × Int) => mleB x.2 y.2).map fun e => V.ref e.1) = vs2 at hsort
      have e3 : Ex T H (upd H3 qs (.lst vs2)) := (Ex.of s5).trans (Ex.new ⟨eX, fun _ => T3⟩ hqs)
      have keep3 : ∀ {b : Addr} {o : HO}, upd H2 pl (.lst []) b = some o → (∀ ps, o ≠ .tbl ps) → upd H3 qs (.lst vs2) b = some o := fun e n => (Same.new (o := .lst vs2) hqs) _ _ (eX _ _ e n)
      have t3' : TT (upd H2 pl (.lst [])) (upd H3 qs (.lst vs2)) := fun b xs e => keep3 e fun ps z => by cases z
      have hlenS : S.length ≤ 8000 := by
        rw [← hS, List.length_mergeSort]
        have z := fndL_len (l := fs0) fun c hc => (bare_mem hbare hWB hc).1
        have := Paired.length hPC
        omega
      have hlr : rv.length ≤ 8000 := by omega
      have nqp : qs ≠ pl := fun z => by
        have := eX pl _ (show upd H2 pl (.lst []) pl = some (.lst []) by rw [upd_same]) (fun ps z => by cases z)
        rw [← z, hqs] at this
        cases this
      have npr : rd ≠ pl := ne_of_none hrd2 hpl
      refine ⟨qs, rfl, ⟨_, SqL.of upd_same⟩, ?_⟩
      refine for_list (K := K) (a := qs) (xs := vs2) (LRowInv T H a m rd fl pl qs vs2 rv rms S) ?_ ?_ ?_ ?_
      · exact ⟨w4, w5, w6, w7, w8, w9, none, [], rfl, e3, upd_same, p_mono hsort fun _ _ z => z.tt t3', keep3 (keep5 hrd2) (fun ps z => by cases z), p_mono hRP fun _ _ z => (z.tt t5).tt t3', keep3 upd_same (fun ps z => by cases z), .nil⟩
      · rintro i σ H4 _ ⟨w4, w5, w6, w7, w8, w9, w11, ps, rfl, e4, hq4, _⟩
        exact SqL.of hq4
      · rintro i x σ H4 gx ⟨w4, w5, w6, w7, w8, w9, w11, ps, rfl, e4, hq4, hP4, hr4, hR4, hp4, hB4⟩
        obtain ⟨e, ge, hx⟩ := p_get hP4 gx
        obtain ⟨ea, xm, xb, rfl, hea, ⟨ma, rfl, hma⟩, hxb⟩ := id hx
        have hil := lt_of_get ge
        have hSe := take_split ge
        have hpre := hG.pre hSe
        have hps : ps.length = i := by
          have z1 := Paired.length hB4
          rw [build_len, List.length_take] at z1
          omega
        have hpsz : ps.length < sizeLine := Nat.lt_of_lt_of_le (by omega : _ < 10000) (by decide)
        refine ⟨ea, _, rfl, SqT.of hea, rfl, _, _, rfl, _, _, rfl, _, _, rfl, _, _, rfl, rfl, ?_⟩
        refine ⟨_, rfl, rfl, _, rfl, ?_⟩
        -- the insert at place j
        have fin : ∀ (w11 : Option V) (H5 : Hp) (j : Nat), Ex T H H5 → TT H4 H5 → H5 qs = some (.lst vs2) → H5 rd = some (.lst rv) → H5 pl = some (.lst ps) →
            (build (S.take i)).take j ++ [e.mark] ++ (build (S.take i)).drop j = build (S.take (i + 1)) → ∀ (t : Addr) (b : Bool), H5 t = none →
            LRowInv T H a m rd fl pl qs vs2 rv rms S (i + 1) [some (.ref a), some (.str m), some (.ref rd), some (.ref fl), w4, w5, some (.bl e.inf), some (.ref ma), some xb, some (.str ⟨#[e.code]⟩), some (.ref pl), w11, none]
              (upd (upd H5 t (.tup [.ref ma, .str ⟨#[e.code]⟩, .bl b])) pl (.lst (ps.take j ++ [V.ref t] ++ ps.drop j))) := by
          intro w11 H5 j e5 t45 hq5 hr5 hp5 hb t b ht
          have s6 := Same.new (o := .tup [.ref ma, .str ⟨#[e.code]⟩, .bl b]) ht
          have hp6 := s6 _ _ hp5
          have tp : TT (upd H5 t (.tup [.ref ma, .str ⟨#[e.code]⟩, .bl b])) (upd (upd H5 t (.tup [.ref ma, .str ⟨#[e.code]⟩, .bl b])) pl (.lst (ps.take j ++ [V.ref t] ++ ps.drop j))) := TT.putL hp6
          have tA := (t45.trans (TT.of s6)).trans tp
          refine ⟨w4, w5, _, _, _, _, w11, _, rfl, (e5.new ht).put hpl0 hp6, ?_, p_mono hP4 fun _ _ z => z.tt tA, ?_, p_mono hR4 fun _ _ z => z.tt tA, upd_same, ?_⟩
          · rw [upd_ne nqp]; exact s6 _ _ hq5
          · rw [upd_ne npr]; exact s6 _ _ hr5
          · rw [← hb]
            have h5 := p_mono hB4 fun _ _ z => z.tt tA
            exact p_app (p_app (p_take _ h5) (.cons ⟨t, _, _, _, rfl, tp _ _ upd_same, ma, rfl, tA _ _ hma⟩ .nil)) (p_drop _ h5)
        cases hbe : e.beh with
        | none =>
          rw [hbe] at hxb
          have hxb : xb = .non := hxb
          subst hxb
          refine iteF ?_
          have hb : (build (S.take i)).take 0 ++ [e.mark] ++ (build (S.take i)).drop 0 = build (S.take (i + 1)) := by
            rw [take_snoc ge, build_snoc]
            unfold stepE
            rw [hbe]
            rfl
          refine ⟨_, rfl, .inl ⟨rfl, _, SqL.of hp4⟩, _, rfl, _, rfl, _, rfl, _, rfl, e.inf, rfl, ?_⟩
          refine ite2 (fun hf => ?_) (fun hf => ?_)
          · refine ⟨_, rfl, _, rfl, mkD e.mark, rms.map mkD, dp_mk ⟨ma, rfl, hma⟩, .lst (SqL.of hr4) (dp_mks hR4), mkD_shaped _, mkDs_shaped _, ?_⟩
            refine ⟨by show 3 ≤ sizeLine; decide, fun t ht => ?_⟩
            exact ⟨pl, ps, _, _, rfl, rfl, (Same.new ht) _ _ hp4, hpsz, by decide, by decide, fin _ H4 0 e4 (TT.refl _) hq4 hr4 hp4 hb t _ ht⟩
          · refine ⟨by show 3 ≤ sizeLine; decide, fun t ht => ?_⟩
            exact ⟨pl, ps, _, _, rfl, rfl, (Same.new ht) _ _ hp4, hpsz, by decide, by decide, fin _ H4 0 e4 (TT.refl _) hq4 hr4 hp4 hb t _ ht⟩
        | some b =>
          rw [hbe] at hxb
          obtain ⟨ba, rfl, hba⟩ := (show IsMk H4 xb b from hxb)
          refine iteT ?_
          have hbm : b ∈ build (S.take i) := by rw [mem_build]; exact hpre b hbe
          obtain ⟨x1, x2, x3⟩ := idx_mk hbm
          have hix : (build (S.take i)).idxOf b < 10000 := by
            have z := List.idxOf_lt_length_of_mem hbm
            rw [build_len, List.length_take] at z
            omega
          have hixp : (build (S.take i)).idxOf b < ps.length := by
            rw [Paired.length hB4]
            exact List.idxOf_lt_length_of_mem hbm
          have hb : (build (S.take i)).take ((build (S.take i)).idxOf b + 1) ++ [e.mark] ++ (build (S.take i)).drop ((build (S.take i)).idxOf b + 1) = build (S.take (i + 1)) := by
            rw [take_snoc ge, build_snoc]
            unfold stepE
            rw [hbe]
            rfl
          refine ⟨_, rfl, pl, rfl, ⟨_, SqL.of hp4⟩, fun D0 hD0 => ?_⟩
          refine lc_list (K := K) (a := pl) (xs := ps) (fun j H5 => Same H4 H5 ∧ ∃ acc : List V, H5 D0 = some (.lst acc) ∧ Paired (IsMk H5) acc ((build (S.take i)).take j)) ?_ ?_ ?_ ?_
          · exact ⟨Same.new hD0, [], upd_same, .nil⟩
          · rintro j H5 _ ⟨s5, _⟩
            exact SqL.of (s5 _ _ hp4)
          · rintro j y H5 gy ⟨s5, acc, hacc, hPa⟩
            obtain ⟨mk, gm, hy⟩ := p_get hB4 gy
            obtain ⟨ya, y1, y2, y3, rfl, hya, hym⟩ := hy
            have hal : acc.length < sizeLine := by
              have q := Paired.length hPa
              rw [List.length_take] at q
              have := lt_of_get gy
              exact Nat.lt_of_lt_of_le (by omega : _ < 10000) (by decide)
            have tp : TT H5 (upd H5 D0 (.lst (acc ++ [y1]))) := TT.putL hacc
            refine ⟨rfl, _, rfl, ya, _, _, _, rfl, rfl, SqT.of (s5 _ _ hya), atI_nat (j := 0) rfl, acc, hacc, hal, same_put s5 hD0, acc ++ [y1], upd_same, ?_⟩
            rw [take_snoc gm]
            exact Paired.snoc (p_mono hPa fun _ _ q => q.tt tp) ((hym.tt (TT.of s5)).tt tp)
          · rintro H5 ⟨s5, acc, hacc, hPa⟩
            have ea2 : (build (S.take i)).take ps.length = build (S.take i) := List.take_of_length_le (by rw [Paired.length hB4]; exact Nat.le_refl _)
            rw [ea2] at hPa
            refine ⟨.inl ⟨rfl, _, SqL.of hacc⟩, _, rfl, D0, _, mkD b, _, _, _, rfl, rfl, .lst (SqL.of hacc) (dp_mks hPa), dp_mk ⟨ba, rfl, s5 _ _ hba⟩, mkDs_shaped _, mkD_shaped _, x1, x2, x3, _, _, rfl, rfl, ?_⟩
            have t5' := TT.of s5
            refine ⟨_, rfl, .inl ⟨rfl, _, SqL.of (s5 _ _ hp4)⟩, _, rfl, _, rfl, _, rfl, _, rfl, e.inf, rfl, ?_⟩
            have fin' : ∀ (t : Addr) (b' : Bool), H5 t = none → LRowInv T H a m rd fl pl qs vs2 rv rms S (i + 1) [some (.ref a), some (.str m), some (.ref rd), some (.ref fl), w4, w5, some (.bl e.inf), some (.ref ma), some (.ref ba), some (.str ⟨#[e.code]⟩), some (.ref pl), some (.int ((((build (S.take i)).idxOf b : Nat) : Int) + 1)), none]
                (upd (upd H5 t (.tup [.ref ma, .str ⟨#[e.code]⟩, .bl b'])) pl (.lst (ps.take ((((build (S.take i)).idxOf b : Nat) : Int) + 1).toNat ++ [V.ref t] ++ ps.drop ((((build (S.take i)).idxOf b : Nat) : Int) + 1).toNat))) := by
              intro t b' ht
              have z : ((((build (S.take i)).idxOf b : Nat) : Int) + 1).toNat = (build (S.take i)).idxOf b + 1 := by omega
              rw [z]
              exact fin _ H5 _ (e4.trans (Ex.of s5)) t5' (s5 _ _ hq4) (s5 _ _ hr4) (s5 _ _ hp4) hb t b' ht
            refine ite2 (fun hf => ?_) (fun hf => ?_)
            · refine ⟨_, rfl, _, rfl, mkD e.mark, rms.map mkD, dp_mk ⟨ma, rfl, s5 _ _ hma⟩, .lst (SqL.of (s5 _ _ hr4)) (dp_mks (p_mono hR4 fun _ _ z => z.tt t5')), mkD_shaped _, mkDs_shaped _, ?_⟩
              refine ⟨by show 3 ≤ sizeLine; decide, fun t ht => ?_⟩
              exact ⟨pl, ps, _, _, rfl, rfl, (Same.new ht) _ _ (s5 _ _ hp4), hpsz, (by omega), (by omega), fin' t _ ht⟩
            · refine ⟨by show 3 ≤ sizeLine; decide, fun t ht => ?_⟩
              exact ⟨pl, ps, _, _, rfl, rfl, (Same.new ht) _ _ (s5 _ _ hp4), hpsz, (by omega), (by omega), fin' t _ ht⟩
      · rintro σ H4 ⟨w4, w5, w6, w7, w8, w9, w11, ps, rfl, e4, hq4, hP4, hr4, hR4, hp4, hB4⟩
        rw [List.take_of_length_le (by rw [Paired.length hP4]; exact Nat.le_refl _)] at hB4
        exact ⟨_, rfl, k H4 pl ps e4 hp4 hB4⟩
end
end Q3

set_option Elab.async false
set_option linter.all false
set_option maxRecDepth 100000
set_option maxHeartbeats 4000000
/-! rows that stand in order -/
namespace Q3
open PySem PySem.Spec PyProof.Rows L2 LamX
def MkIn (rows : List (List Deed)) (m : Str) (x : Mark) : Prop := ∃ (r : Nat) (rem : List Mark) (beh : Option Mark) (num : Int) (text : Str), r < 8 ∧ Deed.chg m rem beh num text ∈ rows.getD r [] ∧ x.2 = (r : Int) ∧ num ≤ x.1 ∧ x.1 < num + (text.cps.size : Int)
def Asc : Deed → Deed → Prop
  | .chg _ _ _ num text, .chg _ _ _ num' _ => num + (text.cps.size : Int) ≤ num'
  | _, _ => True
def Fit (rows : List (List Deed)) (B : Int) : Deed → Prop
  | .chg m rem beh num text => DB (.chg m rem beh num text) ∧ 0 ≤ num ∧ num + (text.cps.size : Int) ≤ B ∧ ∀ b, beh = some b → MkIn rows m b ∧ b.1 < num
  | .bak _ => True
structure WF (rows : List (List Deed)) (B : Int) : Prop where
  len : rows.length = 8
  row : ∀ ds ∈ rows, ds.length ≤ 100
  asc : ∀ r, (rows.getD r []).Pairwise Asc
  deed : ∀ r, ∀ d ∈ rows.getD r [], Fit rows B d
def Sub (A B : List (List Deed)) : Prop := ∀ r d, d ∈ A.getD r [] → d ∈ B.getD r []
theorem MkIn.mono {A B : List (List Deed)} {m : Str} {x : Mark} (h : MkIn A m x) (s : Sub A B) : MkIn B m x := by
  obtain ⟨r, rem, beh, num, text, h1, h2, h3⟩ := h
  exact ⟨r, rem, beh, num, text, h1, s _ _ h2, h3⟩
theorem Fit.mono {A B : List (List Deed)} {x y : Int} {d : Deed} (h : Fit A x d) (s : Sub A B) (l : x ≤ y) : Fit B y d := by
  cases d with
  | bak p => trivial
  | chg m rem beh num text =>
    obtain ⟨h1, h2, h3, h4⟩ := h
    exact ⟨h1, h2, by omega, fun b hb => ⟨(h4 b hb).1.mono s, (h4 b hb).2⟩⟩
theorem Fit.db {A : List (List Deed)} {x : Int} {d : Deed} (h : Fit A x d) : DB d := by
  cases d with
  | bak p => trivial
  | chg m rem beh num text => exact h.1
theorem mem_getD {rows : List (List Deed)} {ds : List Deed} (h : ds ∈ rows) : ∃ r, r < rows.length ∧ rows.getD r [] = ds := by
  obtain ⟨r, hr, e⟩ := List.mem_iff_getElem.mp h
  refine ⟨r, hr, ?_⟩
  rw [List.getD_eq_getElem?_getD, List.getElem?_eq_getElem hr, e]
  rfl
theorem WF.wb {rows : List (List Deed)} {B : Int} (h : WF rows B) : WB rows := by
  refine ⟨h.len, h.row, fun ds hds d hd => ?_⟩
  obtain ⟨r, _, e⟩ := mem_getD hds
  rw [← e] at hd
  exact (h.deed r d hd).db
theorem WF.small {rows : List (List Deed)} {B : Int} (h : WF rows B) (hB : B ≤ 256) {m : Str} {x : Mark} (hx : MkIn rows m x) : Small x ∧ x.1 + 1 ≤ B := by
  obtain ⟨r, rem, beh, num, text, h1, h2, h3, h4, h5⟩ := hx
  obtain ⟨_, z1, z2, _⟩ := h.deed r _ h2
  refine ⟨⟨by omega, by omega, by omega, by omega⟩, by omega⟩
/-- an entry of the rows -/
def EI (rows : List (List Deed)) (m : Str) (e : Ent) : Prop := ∃ (r : Nat) (rem : List Mark) (beh : Option Mark) (num : Int) (text : Str) (i : Nat), r < 8 ∧ Deed.chg m rem beh num text ∈ rows.getD r [] ∧ text.cps.toList[i]? = some e.code ∧ e.mark = (num + (i : Int), (r : Int)) ∧ e.beh = (if i = 0 then beh else some (num + (i : Int) - 1, (r : Int)))
theorem EI.sub {A B : List (List Deed)} {m : Str} {e : Ent} (h : EI A m e) (s : Sub A B) : EI B m e := by
  obtain ⟨r, rem, beh, num, text, i, h1, h2, h3⟩ := h
  exact ⟨r, rem, beh, num, text, i, h1, s _ _ h2, h3⟩
theorem EI.mk {A : List (List Deed)} {m : Str} {e : Ent} (h : EI A m e) : MkIn A m e.mark := by
  obtain ⟨r, rem, beh, num, text, i, h1, h2, h3, h4, h5⟩ := h
  have z := lt_of_get h3
  rw [Array.length_toList] at z
  refine ⟨r, rem, beh, num, text, h1, h2, by rw [h4], by rw [h4]; show num ≤ num + (i : Int); omega, by rw [h4]; show num + (i : Int) < _; omega⟩
theorem MkIn.ent {A : List (List Deed)} {m : Str} {x : Mark} (h : MkIn A m x) : ∃ e, EI A m e ∧ e.mark = x := by
  obtain ⟨r, rem, beh, num, text, h1, h2, h3, h4, h5⟩ := h
  obtain ⟨x1, x2⟩ := x
  simp only at h3 h4 h5
  subst h3
  have hi : (x1 - num).toNat < text.cps.toList.length := by rw [Array.length_toList]; omega
  have em : ((num + (((x1 - num).toNat : Nat) : Int), (r : Int)) : Mark) = (x1, (r : Int)) := by
    have : num + (((x1 - num).toNat : Nat) : Int) = x1 := by omega
    rw [this]
  exact ⟨⟨(num + (((x1 - num).toNat : Nat) : Int), (r : Int)), if (x1 - num).toNat = 0 then beh else some (num + (((x1 - num).toNat : Nat) : Int) - 1, (r : Int)), text.cps.toList[(x1 - num).toNat], false⟩,
    ⟨r, rem, beh, num, text, _, h1, h2, List.getElem?_eq_getElem hi, rfl, rfl⟩, em⟩
theorem ents_get {r : Int} {f : Bool} {m : Str} {rem : List Mark} {beh : Option Mark} {num : Int} {text : Str} {i : Nat} {e : Ent} (h : (entsOf r f (.chg m rem beh num text))[i]? = some e) :
    text.cps.toList[i]? = some e.code ∧ e.mark = (num + (i : Int), r) ∧ e.beh = (if i = 0 then beh else some (num + (i : Int) - 1, r)) := by
  have h' : ((insE r num beh text.cps.toList).map fun z => (⟨z.1, z.2.1, z.2.2, f⟩ : Ent))[i]? = some e := h
  rw [List.getElem?_map] at h'
  unfold insE at h'
  rw [List.getElem?_mapIdx] at h'
  cases q : text.cps.toList[i]? with
  | none => rw [q] at h'; cases h'
  | some c =>
    rw [q] at h'
    cases h'
    exact ⟨rfl, rfl, rfl⟩
theorem mem_chD {rows : List (List Deed)} {m : Str} {n r : Nat} {d : Deed} : (r, d) ∈ chD rows m n ↔ r < n ∧ d ∈ rows.getD r [] ∧ isChg m d = true := by
  unfold chD
  rw [List.mem_flatMap]
  constructor
  · rintro ⟨r', h1, h2⟩
    obtain ⟨d', h3, h4⟩ := List.mem_map.mp h2
    cases h4
    exact ⟨List.mem_range.mp h1, List.mem_filter.mp h3⟩
  · rintro ⟨h1, h2⟩
    exact ⟨r, List.mem_range.mpr h1, List.mem_map.mpr ⟨d, List.mem_filter.mpr h2, rfl⟩⟩
theorem fs_ent {rows : List (List Deed)} {m : Str} {fs : List (Nat × Deed × Bool)} (hb : fs.map bare = chD rows m 8) {e : Ent} (h : e ∈ fndL fs) : EI rows m e := by
  unfold fndL at h
  obtain ⟨c, h1, h2⟩ := List.mem_flatMap.mp h
  have h3 : bare c ∈ fs.map bare := List.mem_map.mpr ⟨c, h1, rfl⟩
  rw [hb] at h3
  obtain ⟨h4, h5, h6⟩ := mem_chD.mp h3
  obtain ⟨rem, beh, num, text, hd⟩ := isChg_shape h6
  obtain ⟨c1, c2, c3⟩ := c
  simp only at hd h2 h5 h4
  subst hd
  obtain ⟨i, hi⟩ := List.mem_iff_getElem?.mp h2
  obtain ⟨z1, z2, z3⟩ := ents_get hi
  exact ⟨c1, rem, beh, num, text, i, h4, h5, z1, z2, z3⟩
theorem ent_fs {rows : List (List Deed)} {m : Str} {fs : List (Nat × Deed × Bool)} (hb : fs.map bare = chD rows m 8) {e : Ent} (h : EI rows m e) : ∃ e' ∈ fndL fs, e'.mark = e.mark ∧ e'.beh = e.beh := by
  obtain ⟨r, rem, beh, num, text, i, h1, h2, h3, h4, h5⟩ := h
  have h6 : ((r, Deed.chg m rem beh num text) : Nat × Deed) ∈ chD rows m 8 := mem_chD.mpr ⟨h1, h2, decide_eq_true rfl⟩
  rw [← hb] at h6
  obtain ⟨⟨c1, c2, c3⟩, h7, h8⟩ := List.mem_map.mp h6
  have e1 : c1 = r := congrArg (·.1) h8
  have e2 : c2 = Deed.chg m rem beh num text := congrArg (·.2) h8
  rw [e1, e2] at h7
  clear h8
  have hg : (entsOf (r : Nat) c3 (.chg m rem beh num text))[i]? = some ⟨(num + (i : Int), (r : Int)), (if i = 0 then beh else some (num + (i : Int) - 1, (r : Int))), e.code, c3⟩ := by
    show ((insE (r : Int) num beh text.cps.toList).map fun z => (⟨z.1, z.2.1, z.2.2, c3⟩ : Ent))[i]? = _
    rw [List.getElem?_map, insE_get h3]
    rfl
  refine ⟨⟨(num + (i : Int), (r : Int)), (if i = 0 then beh else some (num + (i : Int) - 1, (r : Int))), e.code, c3⟩, ?_, h4.symm, h5.symm⟩
  unfold fndL
  exact List.mem_flatMap.mpr ⟨_, h7, List.mem_of_getElem? hg⟩
theorem mleB_of {a b : Mark} (h : mleB a b = true) (n : a ≠ b) : mlt a b = true := by
  have h := of_decide_eq_true h
  rw [mlt_iff]
  rcases h with h | ⟨h1, h2⟩
  · exact .inl h
  · refine .inr ⟨h1, ?_⟩
    rcases Int.lt_or_eq_of_le h2 with q | q
    · exact q
    · exact absurd (Prod.ext h1 q) n
theorem pw_chD {rows : List (List Deed)} (ha : ∀ r, (rows.getD r []).Pairwise Asc) (m : Str) (n : Nat) : (chD rows m n).Pairwise fun a b => a.1 ≠ b.1 ∨ Asc a.2 b.2 := by
  unfold chD
  rw [List.pairwise_flatMap]
  constructor
  · intro r _
    rw [List.pairwise_map]
    exact ((ha r).filter _).imp fun h => .inr h
  · refine List.Pairwise.imp ?_ (List.pairwise_lt_range (n := n))
    intro a b h x hx y hy
    obtain ⟨_, _, rfl⟩ := List.mem_map.mp hx
    obtain ⟨_, _, rfl⟩ := List.mem_map.mp hy
    exact .inl (Nat.ne_of_lt h)
theorem pw_fndL {rows : List (List Deed)} (ha : ∀ r, (rows.getD r []).Pairwise Asc) {m : Str} {fs : List (Nat × Deed × Bool)} (hb : fs.map bare = chD rows m 8) : (fndL fs).Pairwise fun a b => a.mark ≠ b.mark := by
  unfold fndL
  rw [List.pairwise_flatMap]
  constructor
  · rintro ⟨r, d, f⟩ _
    cases d with
    | bak p => exact .nil
    | chg m rem beh num text =>
      rw [List.pairwise_iff_getElem]
      intro i j hi hj hij e
      have z1 := (ents_get (List.getElem?_eq_getElem hi)).2.1
      have z2 := (ents_get (List.getElem?_eq_getElem hj)).2.1
      rw [z1, z2] at e
      have := congrArg (·.1) e
      simp only at this
      omega
  · have h1 := pw_chD ha m 8
    rw [← hb, List.pairwise_map] at h1
    refine h1.imp ?_
    rintro ⟨r, d, f⟩ ⟨r', d', f'⟩ h x hx y hy e
    cases d with
    | bak p => cases hx
    | chg m1 rem beh num text =>
      cases d' with
      | bak p => cases hy
      | chg m2 rem' beh' num' text' =>
        obtain ⟨i, hi⟩ := List.mem_iff_getElem?.mp hx
        obtain ⟨j, hj⟩ := List.mem_iff_getElem?.mp hy
        obtain ⟨z0, z1, _⟩ := ents_get hi
        obtain ⟨z3, z4, _⟩ := ents_get hj
        have l1 := lt_of_get z0
        rw [Array.length_toList] at l1
        rw [z1, z4] at e
        have e1 := congrArg (·.1) e
        have e2 := congrArg (·.2) e
        simp only at e1 e2
        rcases h with h | h
        · exact h (by simp only [bare]; omega)
        · have h : num + (text.cps.size : Int) ≤ num' := h
          omega
theorem mem_srt {l : List Ent} {e : Ent} : e ∈ srtE l ↔ e ∈ l := List.mem_mergeSort
theorem WF.good {rows : List (List Deed)} {B : Int} (h : WF rows B) {m : Str} {fs : List (Nat × Deed × Bool)} (hb : fs.map bare = chD rows m 8) : Good (srtE (fndL fs)) := by
  have hn : (srtE (fndL fs)).Pairwise fun a b => a.mark ≠ b.mark := by
    have := (List.mergeSort_perm (fndL fs) eLe).pairwise_iff (R := fun a b : Ent => a.mark ≠ b.mark) (fun q => q.symm)
    exact this.mpr (pw_fndL h.asc hb)
  have hs : (srtE (fndL fs)).Pairwise fun a b => eLe a b = true := by
    refine List.pairwise_mergeSort ?_ ?_ _
    · intro a b c h1 h2
      have h1 := of_decide_eq_true h1
      have h2 := of_decide_eq_true h2
      exact decide_eq_true (by omega)
    · intro a b
      unfold eLe mleB
      rw [Bool.or_eq_true, decide_eq_true_iff, decide_eq_true_iff]
      omega
  refine ⟨?_, ?_⟩
  · exact hs.imp₂ (fun a b h1 h2 => mleB_of h1 h2) hn
  · intro e he b hbe
    have hE := fs_ent hb (mem_srt.mp he)
    obtain ⟨r, rem, beh, num, text, i, h1, h2, h3, h4, h5⟩ := hE
    have put : ∀ x : Mark, MkIn rows m x → x ∈ (srtE (fndL fs)).map (·.mark) := by
      intro x hx
      obtain ⟨e0, he0, em⟩ := hx.ent
      obtain ⟨e', g1, g2, _⟩ := ent_fs hb he0
      exact List.mem_map.mpr ⟨e', mem_srt.mpr g1, by rw [g2, em]⟩
    have hl := lt_of_get h3
    rw [Array.length_toList] at hl
    rw [h5] at hbe
    split at hbe
    · obtain ⟨_, _, _, z⟩ := h.deed r _ h2
      obtain ⟨z1, z2⟩ := z b hbe
      refine ⟨?_, ?_⟩
      · first
          | exact put b z1
          | (rw [mlt_iff, h4]; exact .inl (by show b.1 < num + (i : Int); omega))
      · first
          | exact put b z1
          | (rw [mlt_iff, h4]; exact .inl (by show b.1 < num + (i : Int); omega))
    · cases hbe
      refine ⟨?_, ?_⟩
      · first
          | (rw [mlt_iff, h4]; exact .inl (by show num + (i : Int) - 1 < num + (i : Int); omega))
          | exact put _ ⟨r, rem, beh, num, text, h1, h2, rfl, by show num ≤ num + (i : Int) - 1; omega, by show num + (i : Int) - 1 < _; omega⟩
      · first
          | (rw [mlt_iff, h4]; exact .inl (by show num + (i : Int) - 1 < num + (i : Int); omega))
          | exact put _ ⟨r, rem, beh, num, text, h1, h2, rfl, by show num ≤ num + (i : Int) - 1; omega, by show num + (i : Int) - 1 < _; omega⟩
theorem WF.goodO {rows : List (List Deed)} {B : Int} (h : WF rows B) (m : Str) : Good (srtE (fndL (chOf rows m))) := h.good (chTo_bare rows m 8)
/-- the marks of a row -/
theorem mem_row {rows : List (List Deed)} {m : Str} {fs : List (Nat × Deed × Bool)} (hb : fs.map bare = chD rows m 8) {x : Mark} : x ∈ build (srtE (fndL fs)) ↔ MkIn rows m x := by
  rw [mem_build]
  constructor
  · intro h
    obtain ⟨e, h1, rfl⟩ := List.mem_map.mp h
    exact (fs_ent hb (mem_srt.mp h1)).mk
  · intro h
    obtain ⟨e0, he0, em⟩ := h.ent
    obtain ⟨e', g1, g2, _⟩ := ent_fs hb he0
    exact List.mem_map.mpr ⟨e', mem_srt.mpr g1, by rw [g2, em]⟩
theorem WF.part {A B : List (List Deed)} {x y : Int} (ha : WF A x) (hb : WF B y) (s : Sub A B) (m : Str) : (build (srtE (fndL (chOf B m)))).filter (fun z => decide (z ∈ build (srtE (fndL (chOf A m))))) = build (srtE (fndL (chOf A m))) := by
  refine part_order (ha.goodO m) (hb.goodO m) fun e he => ?_
  obtain ⟨e', g1, g2, g3⟩ := ent_fs (chTo_bare B m 8) ((fs_ent (chTo_bare A m 8) (mem_srt.mp he)).sub s)
  exact ⟨e', mem_srt.mpr g1, g2, g3⟩
end Q3

set_option Elab.async false
set_option linter.all false
set_option maxRecDepth 100000
set_option maxHeartbeats 4000000
/-! the deeds in turn; what a replica sees -/
namespace Q3
open PySem PySem.Spec PyProof.Rows L2 LamX
def rowsOf (T : List (Nat × Deed)) : List (List Deed) := T.foldl (fun rows t => addR rows t.1 t.2) noRows
theorem rowsOf_snoc (T : List (Nat × Deed)) (t : Nat × Deed) : rowsOf (T ++ [t]) = addR (rowsOf T) t.1 t.2 := by unfold rowsOf; rw [List.foldl_append]; rfl
theorem addR_len (rows : List (List Deed)) (r : Nat) (d : Deed) : (addR rows r d).length = rows.length := by unfold addR; rw [List.length_set]
theorem foldR_len (T : List (Nat × Deed)) : ∀ rows : List (List Deed), (T.foldl (fun rows t => addR rows t.1 t.2) rows).length = rows.length := by
  induction T with
  | nil => intro rows; rfl
  | cons t T ih => intro rows; rw [List.foldl_cons, ih, addR_len]
theorem rowsOf_len (T : List (Nat × Deed)) : (rowsOf T).length = 8 := by
  unfold rowsOf
  rw [foldR_len]
  rfl
theorem addR_get {rows : List (List Deed)} {r : Nat} (hr : r < rows.length) (d : Deed) (j : Nat) : (addR rows r d).getD j [] = if j = r then rows.getD r [] ++ [d] else rows.getD j [] := by
  unfold addR
  rw [List.getD_eq_getElem?_getD, List.getElem?_set]
  by_cases e : r = j
  · subst e
    simp [hr]
  · rw [if_neg e, if_neg (fun z => e z.symm), List.getD_eq_getElem?_getD]
theorem addR_big {rows : List (List Deed)} {r : Nat} (hr : ¬ r < rows.length) (d : Deed) : addR rows r d = rows := by
  unfold addR
  exact List.set_eq_of_length_le (by omega)
theorem addR_sub (rows : List (List Deed)) (r : Nat) (d : Deed) : Sub rows (addR rows r d) := by
  intro j x hx
  by_cases hr : r < rows.length
  · rw [addR_get hr]
    split
    · next e => subst e; exact List.mem_append_left _ hx
    · exact hx
  · rw [addR_big hr]; exact hx
theorem Sub.refl (A : List (List Deed)) : Sub A A := fun _ _ h => h
theorem Sub.trans {A B C : List (List Deed)} (a : Sub A B) (b : Sub B C) : Sub A C := fun r d h => b r d (a r d h)
theorem foldR_sub (T : List (Nat × Deed)) : ∀ rows : List (List Deed), Sub rows (T.foldl (fun rows t => addR rows t.1 t.2) rows) := by
  induction T with
  | nil => intro rows; exact Sub.refl _
  | cons t T ih => intro rows; rw [List.foldl_cons]; exact (addR_sub _ _ _).trans (ih _)
theorem rowsOf_take (T : List (Nat × Deed)) (k : Nat) : Sub (rowsOf (T.take k)) (rowsOf T) := by
  have e : rowsOf T = rowsOf (T.take k ++ T.drop k) := by rw [List.take_append_drop]
  rw [e]
  unfold rowsOf
  rw [List.foldl_append]
  exact foldR_sub _ _
/-- a new deed keeps the order -/
theorem WF.add {rows : List (List Deed)} {B B' : Int} (h : WF rows B) (hB : B ≤ B') {r : Nat} {d : Deed} (hl : (rows.getD r []).length < 100) (ha : ∀ d' ∈ rows.getD r [], Asc d' d) (hf : Fit rows B' d) (hr : r < 8) : WF (addR rows r d) B' := by
  have hr' : r < rows.length := by rw [h.len]; exact hr
  have s := addR_sub rows r d
  refine ⟨by rw [addR_len, h.len], fun ds hds => ?_, fun j => ?_, fun j x hx => ?_⟩
  · obtain ⟨j, hj, e⟩ := mem_getD hds
    rw [← e, addR_get hr']
    split
    · rw [List.length_append, List.length_singleton]; omega
    · by_cases q : j < rows.length
      · refine h.row _ ?_
        rw [List.getD_eq_getElem?_getD, List.getElem?_eq_getElem q]
        exact List.getElem_mem q
      · rw [List.getD_eq_getElem?_getD, List.getElem?_eq_none (by omega)]
        exact Nat.zero_le _
  · rw [addR_get hr']
    split
    · rw [List.pairwise_append]
      exact ⟨h.asc r, List.pairwise_singleton _ _, fun a ha' b hb => by rw [List.mem_singleton.mp hb]; exact ha a ha'⟩
    · exact h.asc j
  · rw [addR_get hr'] at hx
    split at hx
    · rcases List.mem_append.mp hx with q | q
      · exact (h.deed r x q).mono s hB
      · rw [List.mem_singleton.mp q]
        exact hf.mono s (Int.le_refl _)
    · exact (h.deed j x hx).mono s hB
inductive GoodT : List (Nat × Deed) → Prop
  | nil : GoodT []
  | snoc {T : List (Nat × Deed)} {r : Nat} {d : Deed} : GoodT T → r < 8 → T.length ≤ 30 → (∀ d' ∈ (rowsOf T).getD r [], Asc d' d) → Fit (rowsOf T) (1 + 9 * ((T.length : Int) + 1)) d → GoodT (T ++ [(r, d)])
theorem noRows_get (j : Nat) : noRows.getD j [] = [] := by
  unfold noRows
  rw [List.getD_eq_getElem?_getD, List.getElem?_replicate]
  split <;> rfl
theorem row_len (T : List (Nat × Deed)) (j : Nat) : ((rowsOf T).getD j []).length ≤ T.length := by
  have key : ∀ (T : List (Nat × Deed)) (rows : List (List Deed)), ((T.foldl (fun rows t => addR rows t.1 t.2) rows).getD j []).length ≤ (rows.getD j []).length + T.length := by
    intro T
    induction T with
    | nil => intro rows; exact Nat.le_refl _
    | cons t T ih =>
      intro rows
      have z := ih (addR rows t.1 t.2)
      rw [List.foldl_cons]
      have z2 : ((addR rows t.1 t.2).getD j []).length ≤ (rows.getD j []).length + 1 := by
        by_cases hr : t.1 < rows.length
        · rw [addR_get hr]
          split
          · next e => subst e; rw [List.length_append]; exact Nat.le_refl _
          · omega
        · rw [addR_big hr]; omega
      simp only [List.length_cons]
      omega
  have z := key T noRows
  rw [noRows_get] at z
  simpa [rowsOf] using z
theorem GoodT.wf {T : List (Nat × Deed)} (h : GoodT T) : WF (rowsOf T) (1 + 9 * (T.length : Int)) := by
  induction h with
  | nil =>
    refine ⟨rfl, fun ds hds => ?_, fun r => ?_, fun r d hd => ?_⟩
    · rw [List.eq_of_mem_replicate hds]; exact Nat.zero_le _
    · show (noRows.getD r []).Pairwise Asc
      rw [noRows_get]; exact .nil
    · have hd : d ∈ noRows.getD r [] := hd
      rw [noRows_get] at hd; cases hd
  | @snoc T r d h hr hl ha hf ih =>
    rw [rowsOf_snoc]
    have z := row_len T r
    have := ih.add (B' := 1 + 9 * ((T.length : Int) + 1)) (by omega) (r := r) (d := d) (by omega) ha hf hr
    have e : ((T ++ [(r, d)]).length : Int) = (T.length : Int) + 1 := by simp
    rw [e]
    exact this
theorem GoodT.take {T : List (Nat × Deed)} (h : GoodT T) (k : Nat) : GoodT (T.take k) := by
  induction h with
  | nil => rw [List.take_nil]; exact .nil
  | @snoc T r d h hr hl ha hf ih =>
    by_cases q : k ≤ T.length
    · rw [List.take_append_of_le_length q]; exact ih
    · rw [List.take_of_length_le (by rw [List.length_append, List.length_singleton]; omega)]
      exact .snoc h hr hl ha hf
/-! what is seen of the rows -/
def visR (rows : List (List Deed)) (c : List Nat) : List (List Deed) := (List.range 8).map fun k => (rows.getD k []).take (c.getD k 0)
theorem visR_get {rows : List (List Deed)} (hl : rows.length = 8) (c : List Nat) (k : Nat) : (visR rows c).getD k [] = (rows.getD k []).take (c.getD k 0) := by
  unfold visR
  rw [List.getD_eq_getElem?_getD, List.getElem?_map]
  by_cases h : k < 8
  · rw [List.getElem?_range h]; rfl
  · rw [List.getElem?_eq_none (by rw [List.length_range]; omega)]
    have : rows.getD k [] = [] := by rw [List.getD_eq_getElem?_getD, List.getElem?_eq_none (by omega)]; rfl
    rw [this]
    simp
theorem visR_sub {rows : List (List Deed)} (hl : rows.length = 8) (c : List Nat) : Sub (visR rows c) rows := fun r d h => by
  rw [visR_get hl] at h
  exact List.mem_of_mem_take h
/-- closed: what a deed stands behind is there -/
def Clo (rows : List (List Deed)) : Prop := ∀ r m rem beh num text, Deed.chg m rem beh num text ∈ rows.getD r [] → ∀ b, beh = some b → MkIn rows m b
theorem vis_wf {rows : List (List Deed)} {B : Int} (h : WF rows B) {c : List Nat} (hc : Clo (visR rows c)) : WF (visR rows c) B := by
  refine ⟨by unfold visR; rw [List.length_map, List.length_range], fun ds hds => ?_, fun r => ?_, fun r d hd => ?_⟩
  · obtain ⟨j, hj, e⟩ := mem_getD hds
    rw [visR_get h.len] at e
    rw [← e, List.length_take]
    by_cases q : j < rows.length
    · have z : (rows.getD j []).length ≤ 100 := by
        refine h.row _ ?_
        rw [List.getD_eq_getElem?_getD, List.getElem?_eq_getElem q]
        exact List.getElem_mem q
      omega
    · have z : (rows.getD j []) = [] := by rw [List.getD_eq_getElem?_getD, List.getElem?_eq_none (by omega)]; rfl
      rw [z]
      simp
  · rw [visR_get h.len]
    exact (h.asc r).sublist (List.take_sublist _ _)
  · have hd' := visR_sub h.len c r d hd
    have z := h.deed r d hd'
    cases d with
    | bak p => trivial
    | chg m rem beh num text =>
      obtain ⟨h1, h2, h3, h4⟩ := z
      exact ⟨h1, h2, h3, fun b hb => ⟨hc r m rem beh num text hd b hb, (h4 b hb).2⟩⟩
def cmax (a b : List Nat) : List Nat := (List.range 8).map fun k => max (a.getD k 0) (b.getD k 0)
theorem cmax_get {a b : List Nat} (ha : a.length = 8) (hb : b.length = 8) (k : Nat) : (cmax a b).getD k 0 = max (a.getD k 0) (b.getD k 0) := by
  unfold cmax
  rw [List.getD_eq_getElem?_getD, List.getElem?_map]
  by_cases h : k < 8
  · rw [List.getElem?_range h]; rfl
  · rw [List.getElem?_eq_none (by rw [List.length_range]; omega), List.getD_eq_getElem?_getD, List.getD_eq_getElem?_getD, List.getElem?_eq_none (by omega), List.getElem?_eq_none (by omega)]
    rfl
theorem mem_take_mono {α : Type} {l : List α} {a b : Nat} {x : α} (h : x ∈ l.take a) (q : a ≤ b) : x ∈ l.take b := by
  have : l.take a = (l.take b).take a := by rw [List.take_take, Nat.min_eq_left q]
  rw [this] at h
  exact List.mem_of_mem_take h
theorem vis_mono {rows : List (List Deed)} (hl : rows.length = 8) {a b : List Nat} (h : ∀ k, a.getD k 0 ≤ b.getD k 0) : Sub (visR rows a) (visR rows b) := fun r d hd => by
  rw [visR_get hl] at hd ⊢
  exact mem_take_mono hd (h r)
theorem clo_max {rows : List (List Deed)} (hl : rows.length = 8) {a b : List Nat} (ha : a.length = 8) (hb : b.length = 8) (ca : Clo (visR rows a)) (cb : Clo (visR rows b)) : Clo (visR rows (cmax a b)) := by
  intro r m rem beh num text hd x hx
  rw [visR_get hl, cmax_get ha hb] at hd
  rcases Nat.le_total (a.getD r 0) (b.getD r 0) with q | q
  · rw [Nat.max_eq_right q, ← visR_get hl] at hd
    exact (cb r m rem beh num text hd x hx).mono (vis_mono hl fun k => by rw [cmax_get ha hb]; exact Nat.le_max_right _ _)
  · rw [Nat.max_eq_left q, ← visR_get hl] at hd
    exact (ca r m rem beh num text hd x hx).mono (vis_mono hl fun k => by rw [cmax_get ha hb]; exact Nat.le_max_left _ _)
/-- a count of the rows -/
structure CtOk (rows : List (List Deed)) (c : List Nat) : Prop where
  len : c.length = 8
  le : ∀ k, c.getD k 0 ≤ (rows.getD k []).length
  clo : Clo (visR rows c)
theorem CtOk.max {rows : List (List Deed)} (hl : rows.length = 8) {a b : List Nat} (ha : CtOk rows a) (hb : CtOk rows b) : CtOk rows (cmax a b) := by
  refine ⟨by unfold cmax; rw [List.length_map, List.length_range], fun k => ?_, clo_max hl ha.len hb.len ha.clo hb.clo⟩
  rw [cmax_get ha.len hb.len]
  exact Nat.max_le.mpr ⟨ha.le k, hb.le k⟩
theorem rows_ext {A B : List (List Deed)} (ha : A.length = B.length) (h : ∀ k, A.getD k [] = B.getD k []) : A = B := by
  refine List.ext_getElem? fun k => ?_
  have z := h k
  rw [List.getD_eq_getElem?_getD, List.getD_eq_getElem?_getD] at z
  by_cases q : k < A.length
  · rw [List.getElem?_eq_getElem q, List.getElem?_eq_getElem (by omega)] at z ⊢
    exact congrArg some z
  · rw [List.getElem?_eq_none (by omega), List.getElem?_eq_none (by omega)]
theorem visR_len (rows : List (List Deed)) (c : List Nat) : (visR rows c).length = 8 := by unfold visR; rw [List.length_map, List.length_range]
/-- the other counts see what they saw -/
theorem CtOk.old {rows : List (List Deed)} (hl : rows.length = 8) {c : List Nat} (h : CtOk rows c) {r : Nat} (hr : r < 8) (d : Deed) : CtOk (addR rows r d) c := by
  have hr' : r < rows.length := by omega
  have hl2 : (addR rows r d).length = 8 := by rw [addR_len, hl]
  have e : visR (addR rows r d) c = visR rows c := by
    refine rows_ext (by rw [visR_len, visR_len]) fun k => ?_
    rw [visR_get hl2, visR_get hl, addR_get hr']
    split
    · next q => subst q; exact List.take_append_of_le_length (h.le k)
    · rfl
  refine ⟨h.len, fun k => ?_, by rw [e]; exact h.clo⟩
  have z := h.le k
  rw [addR_get hr']
  split
  · next q => subst q; rw [List.length_append]; omega
  · exact z
/-- the count of the one who did it -/
theorem CtOk.new {rows : List (List Deed)} (hl : rows.length = 8) {c : List Nat} (h : CtOk rows c) {r : Nat} (hr : r < 8) {d : Deed} {B : Int} (own : c.getD r 0 = (rows.getD r []).length) (hf : Fit (visR rows c) B d) : CtOk (addR rows r d) (c.set r ((rows.getD r []).length + 1)) := by
  have hr' : r < rows.length := by omega
  have hl2 : (addR rows r d).length = 8 := by rw [addR_len, hl]
  have cg : ∀ k, (c.set r ((rows.getD r []).length + 1)).getD k 0 = if k = r then (rows.getD r []).length + 1 else c.getD k 0 := by
    intro k
    rw [List.getD_eq_getElem?_getD, List.getElem?_set]
    by_cases q : r = k
    · subst q
      simp [h.len, hr]
    · rw [if_neg q, if_neg (fun z => q z.symm), List.getD_eq_getElem?_getD]
  have e : visR (addR rows r d) (c.set r ((rows.getD r []).length + 1)) = addR (visR rows c) r d := by
    refine rows_ext (by rw [visR_len, addR_len, visR_len]) fun k => ?_
    rw [visR_get hl2, addR_get hr', addR_get (by rw [visR_len]; exact hr), cg, visR_get hl, visR_get hl]
    split
    · next q => rw [own, List.take_of_length_le (by simp), List.take_of_length_le (Nat.le_refl _)]
    · rfl
  refine ⟨by rw [List.length_set]; exact h.len, fun k => ?_, ?_⟩
  · rw [cg, addR_get hr']
    split
    · rw [List.length_append]; exact Nat.le_refl _
    · exact h.le k
  · rw [e]
    intro j m rem beh num text hd b hb
    rw [addR_get (by rw [visR_len]; exact hr)] at hd
    have s := addR_sub (visR rows c) r d
    split at hd
    · rcases List.mem_append.mp hd with q | q
      · exact (h.clo r m rem beh num text q b hb).mono s
      · have q := List.mem_singleton.mp q
        subst q
        exact (hf.2.2.2 b hb).1.mono s
    · exact (h.clo j m rem beh num text hd b hb).mono s
end Q3

set_option Elab.async false
set_option linter.all false
set_option maxRecDepth 100000
set_option maxHeartbeats 8000000
/-! the law's last number, its modules, its letters -/
namespace Q3
open PySem PySem.Spec PyProof.Rows L2 LamX
def spLLast : Sp := fun vs H Q _ => ∃ (a : Addr) (rows : List (List Deed)) (B : Int), vs = [.ref a] ∧ RowsL H a rows ∧ WF rows B ∧ 0 ≤ B ∧ ∀ v : Int, 0 ≤ v → v ≤ B → Q (.int v) H
abbrev nLL : List Str := ["_law_rows", "_law_last_here", "_law_row_here", "_law_deed_here"]
abbrev modS : List Str := ["main", "a", "a b'[]", Txt.mul "z" 40]
def spLMods : Sp := fun vs H Q _ => vs = [] ∧ ∀ q, H q = none → Q (.ref q) (upd H q (.lst (modS.map V.str)))
def spLLet : Sp := fun vs H Q _ => ∃ (q : Addr) (i : Int), vs = [.ref q, .int i] ∧ DrAt H q ∧ 0 ≤ i ∧ ∀ z : Str, z.cps.size ≤ 4 → PyData.strOk z = true → Q (.str z) H
abbrev nLT : List Str := ["_law_draws_here", "_law_index", "_law_chars", "_law_text", "_law_k"]
abbrev chS : Str := " !\"#$&'()*+,-./0123456789:;<=>?@ABCDEFGHIJKLMNOPQRSTUVWXYZ[\\]^_`abcdefghijklmnopqrstuvwxyz{|}~\n"
theorem chS_get (k : Nat) (h : k < 95) : ∃ c, chS.cps.toList[k]? = some c ∧ c < 0x110000 := by
  have h1 : chS.cps.toList.length = 95 := by decide +kernel
  have h2 : ∀ c ∈ chS.cps.toList, c < 0x110000 := by decide +kernel
  exact ⟨chS.cps.toList[k]'(by omega), List.getElem?_eq_getElem (by omega), h2 _ (List.getElem_mem _)⟩
theorem modS_ok : ∀ m ∈ modS, PyData.strOk m = true := by decide +kernel
section
variable {P : Program} {w : World} {K : PySem.W.Frag} {mg : Str → Option Value} {base : Heap}
theorem scLL : FnScope nLL ["_law_rows"] (defScope sLLast) := ⟨rfl, rfl, rfl, by decide +kernel, rfl, by decide +kernel, by decide +kernel⟩
theorem cal_llast {f : Addr} {fd : FuncData} (F : Fun K "_law_last" "_law_last" sLLast f fd) (hm : mg "_law_last" = some (.ref f)) (X : Txt K mg) : Cal P w K mg base 1 "_law_last" spLLast := by
  refine ⟨f, fd, ["_law_rows"], F.ok scLL (fun vs H Q E h => ?_) (fun cdv A outer s H vs Q E hr h => ?_), hm, F.kp, F.binds fun _ _ _ _ _ _ us hl => match us, hl with | [_], _ => rfl⟩
  · obtain ⟨a, rows, B, rfl, _⟩ := h
    rfl
  · obtain ⟨a, rows, B, rfl, ⟨bs, ha, hP⟩, hW, hB, k⟩ := h
    have nd := scLL.nd
    refine ⟨_, pss_cons (ps_set (i := 1) nd rfl (Or.inl rfl) pe_int)
      (pss_cons (ps_for PassesOwn.never rfl (pi_list (pv 0)) (pg_name (i := 2) nd rfl (.inl rfl))
        (pss_one (ps_for PassesOwn.never rfl (pi_list (pv 2)) (pg_name (i := 3) nd rfl (.inl rfl))
          (pss_one (ps_if (pt_cmpR op_eq (pe_ix ix_tup (pv 3) pe_int (fun _ _ => rfl)) pe_str (nomark _))
            (pss_one (ps_set (i := 1) nd rfl (Or.inl rfl) (pe_callB (call_max2 rfl) (by rfl) X.max (by decide +kernel) (pa_cons (pv 1) (pa_cons (pe_op op_add (pe_ix ix_tup (pv 3) pe_int (fun _ _ => rfl)) (pe_callB call_len_str (by rfl) X.len PySem.boot_len (pa_cons (pe_ix ix_tup (pv 3) pe_int (fun _ _ => rfl)) pa_nil))) pa_nil))))) pss_nil)))))
      (pss_one (ps_ret (pv 1)))), ?_⟩
    refine ⟨_, rfl, a, rfl, ⟨_, SqL.of ha⟩, ?_⟩
    refine for_list (K := K) (a := a) (xs := bs.map V.ref) (fun _ σ H1 => ∃ (w2 w3 : Option V) (v : Int), σ = [some (.ref a), some (.int v), w2, w3] ∧ H1 = H ∧ 0 ≤ v ∧ v ≤ B) ?_ ?_ ?_ ?_
    · exact ⟨none, none, 0, rfl, rfl, by decide, hB⟩
    · rintro i σ H1 _ ⟨w2, w3, v, rfl, rfl, _⟩
      exact SqL.of ha
    · rintro i x σ H1 gx ⟨w2, w3, v, rfl, rfl, hv0, hvB⟩
      rw [List.getElem?_map] at gx
      cases gb : bs[i]? with
      | none => rw [gb] at gx; cases gx
      | some b =>
        rw [gb] at gx
        cases gx
        obtain ⟨ds, gd, vs, hb1, hb2⟩ := p_get hP gb
        have gd' : rows.getD i [] = ds := by rw [List.getD_eq_getElem?_getD, gd]; rfl
        refine ⟨_, rfl, b, rfl, ⟨_, SqL.of hb1⟩, ?_⟩
        refine for_list (K := K) (a := b) (xs := vs) (fun _ σ H2 => ∃ (w3 : Option V) (v : Int), σ = [some (.ref a), some (.int v), some (.ref b), w3] ∧ H2 = H1 ∧ 0 ≤ v ∧ v ≤ B) ?_ ?_ ?_ ?_
        · exact ⟨_, v, rfl, rfl, hv0, hvB⟩
        · rintro j σ H2 _ ⟨w3, v, rfl, rfl, _⟩
          exact SqL.of hb1
        · rintro j y σ H2 gy ⟨w3, v, rfl, rfl, hv0, hvB⟩
          obtain ⟨d, gdd, hd⟩ := p_get hb2 gy
          obtain ⟨da, dxs, rfl, hda, hd0⟩ := deed_tag hd
          refine ⟨_, rfl, da, _, _, _, rfl, rfl, SqT.of hda, atI_nat (j := 0) hd0, rfl, _, rfl, ?_⟩
          rw [tag_change]
          cases d with
          | bak p => exact iteF ⟨_, v, rfl, rfl, hv0, hvB⟩
          | chg m rem beh num text =>
            refine iteT ?_
            obtain ⟨a2, td, bv, bs2, e2, hda2, _⟩ := hd
            cases e2
            have hm := List.mem_of_getElem? gdd
            rw [← gd'] at hm
            obtain ⟨z0, z1, z2, _⟩ := hW.deed i _ hm
            refine ⟨_, rfl, _, rfl, da, _, _, _, rfl, rfl, SqT.of hda2, atI_nat (j := 4) rfl, _, rfl, da, _, _, _, rfl, rfl, SqT.of hda2, atI_nat (j := 5) rfl, text, rfl, Nat.le_trans (show text.cps.size ≤ 10 from z0.2.1) (by decide), _, _, rfl, rfl, _, _, rfl, ?_⟩
            have zl : (text.length : Int) = (text.cps.size : Int) := rfl
            refine ⟨_, _, rfl, rfl, ?_, ?_⟩
            · split <;> omega
            · split <;> omega
        · rintro σ H2 ⟨w3, v, rfl, rfl, hv0, hvB⟩
          exact ⟨_, _, v, rfl, rfl, hv0, hvB⟩
    · rintro σ H1 ⟨w2, w3, v, rfl, rfl, hv0, hvB⟩
      exact ⟨_, rfl, k v hv0 hvB⟩
theorem scLM : FnScope [] [] (defScope sLModules) := ⟨rfl, rfl, rfl, by decide +kernel, rfl, by decide +kernel, by decide +kernel⟩
theorem cal_lmods {f : Addr} {fd : FuncData} (F : Fun K "_law_modules" "_law_modules" sLModules f fd) (hm : mg "_law_modules" = some (.ref f)) : Cal P w K mg base 1 "_law_modules" spLMods := by
  refine ⟨f, fd, [], F.ok scLM (fun vs H Q E h => ?_) (fun cdv A outer s H vs Q E hr h => ?_), hm, F.kp, F.binds fun _ _ _ _ _ _ us hl => match us, hl with | [], _ => rfl⟩
  · obtain ⟨rfl, _⟩ := h
    rfl
  · obtain ⟨rfl, k⟩ := h
    refine ⟨_, pss_one (ps_ret (pe_lst (pa_cons pe_str (pa_cons pe_str (pa_cons pe_str (pa_cons (pe_op op_repS pe_str pe_int) pa_nil)))))), ?_⟩
    exact ⟨_, _, rfl, rfl, by unfold MulOk; decide +kernel, by show 4 ≤ sizeLine; decide, k⟩
theorem scLT : FnScope nLT ["_law_draws_here", "_law_index"] (defScope sLLetters) := ⟨rfl, rfl, rfl, by decide +kernel, rfl, by decide +kernel, by decide +kernel⟩
theorem cal_llet {f : Addr} {fd : FuncData} (F : Fun K "_law_letters" "_law_letters" sLLetters f fd) (hm : mg "_law_letters" = some (.ref f)) (X : Txt K mg) (GA : Cal P w K mg base 2 "_law_at" spAt) : Cal P w K mg base 3 "_law_letters" spLLet := by
  refine ⟨f, fd, ["_law_draws_here", "_law_index"], F.ok scLT (fun vs H Q E h => ?_) (fun cdv A outer s H vs Q E hr h => ?_), hm, F.kp, F.binds fun _ _ _ _ _ _ us hl => match us, hl with | [_, _], _ => rfl⟩
  · obtain ⟨q, i, rfl, _⟩ := h
    rfl
  · obtain ⟨q, i, rfl, hDr, hi, k⟩ := h
    have nd := scLT.nd
    refine ⟨_, pss_cons (ps_set (i := 2) nd rfl (Or.inl rfl) pe_str)
      (pss_cons (ps_set (i := 3) nd rfl (Or.inl rfl) pe_str)
      (pss_cons (ps_for PassesOwn.never rfl (pi_range1 rfl X.range (pa_cons (pe_op op_mod (pe_f GA hr (by decide) rfl (pa_cons (pv 0) (pa_cons (pv 1) pa_nil))) pe_int) pa_nil)) (pg_name (i := 4) nd rfl (.inl rfl))
        (pss_one (ps_set (i := 3) nd rfl (Or.inl rfl) (pe_op op_add_str (pv 3) (pe_ix ix_str (pv 2) (pe_op op_mod (pe_op op_add (pe_f GA hr (by decide) rfl (pa_cons (pv 0) (pa_cons (pe_op op_add (pv 1) pe_int) pa_nil))) (pe_op op_mul pe_int (pv 4))) pe_int) (fun _ _ => rfl))))))
      (pss_one (ps_ret (pv 3))))), ?_⟩
    refine ⟨_, rfl, _, rfl, q, i, rfl, hDr, hi, fun v hv => ?_⟩
    obtain ⟨hv0, hv1⟩ := hv
    have hm0 : 0 ≤ v % 5 := Int.emod_nonneg _ (by decide)
    have hm1 : v % 5 < 5 := Int.emod_lt_of_pos _ (by decide)
    refine ⟨_, _, rfl, rfl, (by show (0 : Int) < _; decide), _, rfl, by omega, by omega, ?_⟩
    generalize v % 5 = n at hm0 hm1
    refine for_range (lo := 0) (n := n.toNat) (fun j σ H1 => ∃ (w4 : Option V) (z : Str), σ = [some (.ref q), some (.int i), some (.str chS), some (.str z), w4] ∧ H1 = H ∧ z.cps.size = j ∧ PyData.strOk z = true) ?_ ?_ ?_
    · exact ⟨none, _, rfl, rfl, by decide +kernel, by decide +kernel⟩
    · rintro j σ H1 hj ⟨w4, z, rfl, rfl, hz, hok⟩
      have ez : (0 : Int) + (j : Nat) = ((j : Nat) : Int) := by omega
      rw [ez]
      refine ⟨_, rfl, _, rfl, _, rfl, _, rfl, _, _, rfl, rfl, q, _, rfl, hDr, by omega, fun v hv => ?_⟩
      refine ⟨_, rfl, _, _, rfl, rfl, .inl (by decide), _, _, rfl, rfl, _, _, rfl, rfl, (by show (0 : Int) < _; decide), ?_⟩
      have h0 : 0 ≤ (v + 37 * (j : Int)) % 95 := Int.emod_nonneg _ (by decide)
      have h1 : (v + 37 * (j : Int)) % 95 < 95 := Int.emod_lt_of_pos _ (by decide)
      generalize hp0 : (v + 37 * (j : Int)) % 95 = p at h0 h1
      obtain ⟨c, hc1, hc2⟩ := chS_get p.toNat (by omega)
      have hp := atI_nat hc1
      rw [Int.toNat_of_nonneg h0] at hp
      refine ⟨_, _, c, rfl, rfl, by decide +kernel, by rw [hp0]; exact hp, _, _, rfl, rfl, ?_, ?_⟩
      · show z.cps.size + 1 ≤ sizeLine
        exact Nat.le_trans (by omega : _ ≤ 10) (by decide)
      · refine ⟨_, _, rfl, rfl, ?_, ?_⟩
        · show (z.cps ++ #[c]).size = j + 1
          rw [Array.size_append, hz]
          rfl
        · show (z.cps ++ #[c]).all (· < 0x110000) = true
          rw [Array.all_append, (show z.cps.all (· < 0x110000) = true from hok)]
          simpa using hc2
    · rintro σ H1 ⟨w4, z, rfl, rfl, hz, hok⟩
      exact ⟨_, rfl, k z (by omega) hok⟩
end
end Q3

set_option Elab.async false
set_option linter.all false
set_option maxRecDepth 100000
set_option maxHeartbeats 8000000
/-! the law's deed -/
namespace Q3
open PySem PySem.Spec PyProof.Rows L2 LamX
def spLDeed (T : List (Addr × Str)) : Sp := fun vs H Q _ => ∃ (q : Addr) (i : Int) (a : Addr) (r : Nat) (rows : List (List Deed)) (B : Int), vs = [.ref q, .int i, .ref a, .int (r : Nat)] ∧ DrAt H q ∧ 0 ≤ i ∧ RowsL H a rows ∧ WF rows B ∧ 1 ≤ B ∧ B ≤ 240 ∧ r < 8 ∧ Tabs T H ∧
  ∀ (H' : Hp) (v : V) (d : Deed), Ex T H H' → IsDeed H' v d → Fit rows (B + 9) d → (∀ d' ∈ rows.getD r [], Asc d' d) → Q v H'
abbrev nLD : List Str := ["_law_draws_here", "_law_index", "_law_rows", "_law_replica", "_law_own", "_law_module", "_law_marks_here", "_law_removed", "_law_k", "_law_behind", "_law_number", "_law_mark", "_law_deed_here", "_law_each"]
/-- the marks of a list with their addresses -/
theorem mks_addr {H : Hp} : ∀ {vs : List V} {ms : List Mark}, Paired (IsMk H) vs ms → ∃ bs : List (Addr × Int × Int), vs = bs.map (fun e => V.ref e.1) ∧ bs.map (·.2) = ms ∧ MksAt H bs
  | _, _, .nil => ⟨[], rfl, rfl, fun _ h => nomatch h⟩
  | _, _, .cons h t => by
    obtain ⟨bs, h1, h2, h3⟩ := mks_addr t
    obtain ⟨a, rfl, r⟩ := h
    refine ⟨(a, _) :: bs, by rw [h1]; rfl, by rw [← h2]; rfl, fun z hz => ?_⟩
    rcases List.mem_cons.mp hz with e | hz
    · rw [e]; exact r
    · exact h3 z hz
theorem at_mod {xs : List V} (h : 0 < xs.length) (v : Int) : ∃ (x : V) (n : Nat), atI xs (v % (xs.length : Int)) = some x ∧ xs[n]? = some x := by
  have h0 : 0 ≤ v % (xs.length : Int) := Int.emod_nonneg _ (by omega)
  have h1 : v % (xs.length : Int) < (xs.length : Int) := Int.emod_lt_of_pos _ (by omega)
  have h2 : (v % (xs.length : Int)).toNat < xs.length := by omega
  have z := List.getElem?_eq_getElem h2
  have z2 := atI_nat z
  rw [Int.toNat_of_nonneg h0] at z2
  exact ⟨_, _, z2, z⟩
theorem at_four (p : Int) (h0 : 0 ≤ p) (h1 : p < 4) : ∃ e : Int, atI [V.int 0, V.int 0, V.int 1, V.int 5] p = some (V.int e) ∧ 0 ≤ e ∧ e ≤ 5 := by
  have h2 : p = 0 ∨ p = 1 ∨ p = 2 ∨ p = 3 := by omega
  rcases h2 with rfl | rfl | rfl | rfl
  · exact ⟨0, rfl, by decide, by decide⟩
  · exact ⟨0, rfl, by decide, by decide⟩
  · exact ⟨1, rfl, by decide, by decide⟩
  · exact ⟨5, rfl, by decide, by decide⟩
theorem mod_get (p : Int) (h0 : 0 ≤ p) (h1 : p < 16) : ∃ m ∈ modS, atI (modS.map V.str) (p / 5) = some (V.str m) := by
  have h2 : (p / 5).toNat < modS.length := by show (p / 5).toNat < 4; omega
  refine ⟨modS[(p / 5).toNat], List.getElem_mem _, ?_⟩
  have z : (modS.map V.str)[(p / 5).toNat]? = some (V.str modS[(p / 5).toNat]) := by rw [List.getElem?_map, List.getElem?_eq_getElem h2]; rfl
  have z2 := atI_nat z
  rw [Int.toNat_of_nonneg (by omega)] at z2
  exact z2
section
variable {P : Program} {w : World} {K : PySem.W.Frag} {mg : Str → Option Value} {base : Heap}
theorem scLD : FnScope nLD ["_law_draws_here", "_law_index", "_law_rows", "_law_replica"] (defScope sLDeed) := ⟨rfl, rfl, rfl, by decide +kernel, rfl, by decide +kernel, by decide +kernel⟩
theorem cal_ldeed {T : List (Addr × Str)} {f : Addr} {fd : FuncData} (F : Fun K "_law_deed" "_law_deed" sLDeed f fd) (hm : mg "_law_deed" = some (.ref f)) (X : Txt K mg) (GA : Cal P w K mg base 2 "_law_at" spAt) (GMo : Cal P w K mg base 1 "_law_modules" spLMods)
    (GR : Cal P w K mg base 3 "_law_row" (spLRow T)) (GLa : Cal P w K mg base 1 "_law_last" spLLast) (GLt : Cal P w K mg base 3 "_law_letters" spLLet) : Cal P w K mg base 4 "_law_deed" (spLDeed T) := by
  refine ⟨f, fd, ["_law_draws_here", "_law_index", "_law_rows", "_law_replica"], F.ok scLD (fun vs H Q E h => ?_) (fun cdv A outer s H vs Q E hr h => ?_), hm, F.kp, F.binds fun _ _ _ _ _ _ us hl => match us, hl with | [_, _, _, _], _ => rfl⟩
  · obtain ⟨q, i, a, r, rows, B, rfl, _⟩ := h
    rfl
  · obtain ⟨q, ix, a, r, rows, B, rfl, hDr, hi, ⟨bs, ha, hP⟩, hW, hB1, hB2, hr8, hT, k⟩ := h
    have nd := scLD.nd
    refine ⟨_, (pss_cons (ps_set (i := 4) nd rfl (Or.inl rfl) (pe_ix ix_list (pv 2) (pv 3) (fun _ _ => rfl)))
      (C8.pss_cut (ps_if (PW.pt (pw_and (pt_cmpR op_eq (pe_op op_mod (pe_f GA hr (by decide) rfl (pa_cons (pv 0) (pa_cons (pv 1) pa_nil))) pe_int) pe_int (nomark _)) (pw_and1 (pt_cmpR op_gt (pe_callB call_len_seq (by rfl) X.len PySem.boot_len (pa_cons (pv 4) pa_nil)) pe_int (nomark _))))) (pss_one (ps_ret (pe_tup (pa_cons pe_str (pa_cons (pe_op op_add pe_int (pe_op op_mod (pe_f GA hr (by decide) rfl (pa_cons (pv 0) (pa_cons (pe_op op_add (pv 1) pe_int) pa_nil))) (pe_callB call_len_seq (by rfl) X.len PySem.boot_len (pa_cons (pv 4) pa_nil)))) pa_nil))))) pss_nil)
      (pss_cons (ps_set (i := 5) nd rfl (Or.inl rfl) (pe_ix ix_list (pe_f0 GMo hr (by decide) rfl) (pe_op op_fdiv (pe_op op_mod (pe_f GA hr (by decide) rfl (pa_cons (pv 0) (pa_cons (pe_op op_add (pv 1) pe_int) pa_nil))) pe_int) pe_int) (fun _ _ => rfl)))
      (pss_cons (ps_setLc (i := 6) (own := [("_law_each", 13)]) (g := gName 13) (tt := tYes) (te := tOp (rIxT K) (tVar 13) (tC (.int 0))) rfl nd rfl rfl (sw_true rfl rfl rfl (by decide +kernel)) (pi_list (pe_f GR hr (by decide) rfl (pa_cons (pv 2) (pa_cons (pv 5) pa_nil)))) (blkOk_by (N := nLD) (sc := defScope sLDeed) (by decide +kernel)) (fun _ _ _ _ _ => pg_name (i := 13) nd rfl (.inl rfl)) (fun _ _ _ _ _ => pts_nil) (fun _ _ _ _ _ => (pe_ix ix_tup (pv 13) pe_int (fun _ _ => rfl))))
      (pss_cons (ps_set (i := 7) nd rfl (Or.inl rfl) (pe_lst pa_nil))
      (pss_cons (ps_for PassesOwn.never rfl (pi_range1 rfl X.range (pa_cons (pe_op op_mod (pe_f GA hr (by decide) rfl (pa_cons (pv 0) (pa_cons (pe_op op_add (pv 1) pe_int) pa_nil))) pe_int) pa_nil)) (pg_name (i := 8) nd rfl (.inl rfl)) (pss_one (ps_if (pt_cmpR op_gt (pe_callB call_len_seq (by rfl) X.len PySem.boot_len (pa_cons (pv 6) pa_nil)) pe_int (nomark _)) (pss_one (ps_expr (pe_bm PySem.F.plainAttrs_list PySem.F.slot_list_append PySem.F.type_list_append mt_append (pv 7) (pa_cons (pe_ix ix_list (pv 6) (pe_op op_mod (pe_f GA hr (by decide) rfl (pa_cons (pv 0) (pa_cons (pe_op op_add (pe_op op_add (pv 1) pe_int) (pv 8)) pa_nil))) (pe_callB call_len_seq (by rfl) X.len PySem.boot_len (pa_cons (pv 6) pa_nil))) (fun _ _ => rfl)) pa_nil)))) pss_nil)))
      (pss_cons (ps_set (i := 9) nd rfl (Or.inl rfl) pe_non)
      (C8.pss_cut (ps_if (PW.pt (pw_and (pt_cmpR op_gt (pe_callB call_len_seq (by rfl) X.len PySem.boot_len (pa_cons (pv 6) pa_nil)) pe_int (nomark _)) (pw_and1 (pt_cmpR op_ne (pe_op op_mod (pe_f GA hr (by decide) rfl (pa_cons (pv 0) (pa_cons (pe_op op_add (pv 1) pe_int) pa_nil))) pe_int) pe_int (nomark _))))) (pss_one (ps_set (i := 9) nd rfl (Or.inl rfl) (pe_ix ix_list (pv 6) (pe_op op_mod (pe_op op_fdiv (pe_f GA hr (by decide) rfl (pa_cons (pv 0) (pa_cons (pe_op op_add (pv 1) pe_int) pa_nil))) pe_int) (pe_callB call_len_seq (by rfl) X.len PySem.boot_len (pa_cons (pv 6) pa_nil))) (fun _ _ => rfl)))) pss_nil)
      (pss_cons (ps_set (i := 10) nd rfl (Or.inl rfl) pe_int)
      (pss_cons (ps_for PassesOwn.never rfl (pi_list (pe_op op_cat (pv 7) (pe_lst (pa_cons (pv 9) pa_nil)))) (pg_name (i := 11) nd rfl (.inl rfl)) (pss_one (ps_if (pt_cmpR op_notN (pv 11) pe_non (nomark _)) (pss_one (ps_set (i := 10) nd rfl (Or.inl rfl) (pe_callB (call_max2 rfl) (by rfl) X.max (by decide +kernel) (pa_cons (pv 10) (pa_cons (pe_op op_add (pe_ix ix_tup (pv 11) pe_int (fun _ _ => rfl)) pe_int) pa_nil))))) pss_nil)))
      (pss_cons (ps_for PassesOwn.never rfl (pi_list (pv 4)) (pg_name (i := 12) nd rfl (.inl rfl)) (pss_one (ps_if (pt_cmpR op_eq (pe_ix ix_tup (pv 12) pe_int (fun _ _ => rfl)) pe_str (nomark _)) (pss_one (ps_set (i := 10) nd rfl (Or.inl rfl) (pe_callB (call_max2 rfl) (by rfl) X.max (by decide +kernel) (pa_cons (pv 10) (pa_cons (pe_op op_add (pe_ix ix_tup (pv 12) pe_int (fun _ _ => rfl)) (pe_callB call_len_str (by rfl) X.len PySem.boot_len (pa_cons (pe_ix ix_tup (pv 12) pe_int (fun _ _ => rfl)) pa_nil))) pa_nil))))) pss_nil)))
      (pss_cons (ps_set (i := 10) nd rfl (Or.inl rfl) (pe_op op_add (pv 10) (pe_ix ix_list (pe_lst (pa_cons pe_int (pa_cons pe_int (pa_cons pe_int (pa_cons pe_int pa_nil))))) (pe_op op_mod (pe_f GA hr (by decide) rfl (pa_cons (pv 0) (pa_cons (pe_op op_add (pv 1) pe_int) pa_nil))) pe_int) (fun _ _ => rfl))))
      (C8.pss_cut (ps_if (pt_cmpR op_eq (pe_op op_mod (pe_op op_fdiv (pe_f GA hr (by decide) rfl (pa_cons (pv 0) (pa_cons (pe_op op_add (pv 1) pe_int) pa_nil))) pe_int) pe_int) pe_int (nomark _)) (pss_one (ps_set (i := 10) nd rfl (Or.inl rfl) (pe_callB (call_max2 rfl) (by rfl) X.max (by decide +kernel) (pa_cons (pv 10) (pa_cons (pe_op op_add (pe_f GLa hr (by decide) rfl (pa_cons (pv 2) pa_nil)) pe_int) pa_nil))))) pss_nil)
      (pss_one (ps_ret (pe_tup (pa_cons pe_str (pa_cons (pv 5) (pa_cons (pe_callTy call_tuple_of (by rfl) X.tuple (by decide +kernel) (pa_cons (pv 7) pa_nil)) (pa_cons (pv 9) (pa_cons (pv 10) (pa_cons (pe_f GLt hr (by decide) rfl (pa_cons (pv 0) (pa_cons (pe_op op_add (pv 1) pe_int) pa_nil))) pa_nil)))))))))))))))))))))), ?_⟩
    have h8 := hW.len
    have gr : rows[r]? = some rows[r] := List.getElem?_eq_getElem (by omega)
    have gd : rows.getD r [] = rows[r] := by rw [List.getD_eq_getElem?_getD, gr]; rfl
    have hzr := hW.row rows[r] (List.getElem_mem _)
    obtain ⟨b, gb, hRA⟩ := p_get' hP gr
    obtain ⟨vs, hv1, hv2⟩ := id hRA
    have ga : (bs.map V.ref)[r]? = some (V.ref b) := by rw [List.getElem?_map, gb]; rfl
    have hvl := Paired.length hv2
    generalize rows[r] = ds at gd hzr hv2 hvl hRA
    rw [gd] at k
    refine ⟨_, rfl, _, rfl, a, _, _, _, rfl, rfl, SqL.of ha, atI_nat ga, ?_⟩
    refine ⟨fun σ H' => σ = [some (.ref q), some (.int ix), some (.ref a), some (.int (r : Nat)), some (.ref b), none, none, none, none, none, none, none, none, none] ∧ H' = H, ?_, ?_⟩
    · refine ⟨_, rfl, _, rfl, q, ix, rfl, hDr, hi, fun v hv => ?_⟩
      refine ⟨_, _, rfl, rfl, (by show (0 : Int) < _; decide), rfl, _, rfl, ?_⟩
      refine ite2 (fun h1 => ?_) (fun h1 => ⟨rfl, rfl⟩)
      refine ⟨_, rfl, b, _, rfl, .inl (SqL.of hv1), _, _, rfl, rfl, _, rfl, ?_⟩
      refine ite2 (fun h2 => ?_) (fun h2 => ⟨rfl, rfl⟩)
      have h2 : (0 : Int) < ((vs.length : Nat) : Int) := of_decide_eq_true h2
      refine ⟨_, rfl, _, rfl, _, _, rfl, rfl, q, _, rfl, hDr, by omega, fun v2 hv2' => ?_⟩
      refine ⟨_, rfl, b, _, rfl, .inl (SqL.of hv1), _, _, rfl, rfl, h2, _, _, rfl, rfl, by show 2 ≤ sizeLine; decide, fun t ht => ?_⟩
      exact k _ _ (.bak (1 + v2 % ((vs.length : Nat) : Int))) (Ex.of (Same.new ht)) ⟨t, rfl, upd_same⟩ trivial fun d' _ => by cases d' <;> trivial
    · rintro σ H' ⟨rfl, rfl⟩
      refine ⟨rfl, fun mo hmo => ?_⟩
      have s1 := Same.new (o := .lst (modS.map V.str)) hmo
      refine ⟨_, rfl, _, rfl, _, _, rfl, rfl, q, _, rfl, hDr.same s1, by omega, fun v hv => ?_⟩
      obtain ⟨m, hmm, hmg⟩ := mod_get (v % 16) (Int.emod_nonneg _ (by decide)) (Int.emod_lt_of_pos _ (by decide))
      have hmok := modS_ok m hmm
      refine ⟨_, _, rfl, rfl, (by show (0 : Int) < _; decide), _, _, rfl, rfl, ⟨by decide, by decide⟩, mo, _, _, _, rfl, rfl, SqL.of upd_same, hmg, ?_⟩
      clear hmg
      refine ⟨_, rfl, _, rfl, a, rows, m, rfl, RowsL.same ⟨bs, ha, hP⟩ s1, hW.wb, fun fs hf => hW.good hf, hT.ext s1, fun H1 qr us fs hbare eX hq hPR => ?_⟩
      have e1 : Ex T H' H1 := (Ex.of s1).trans eX
      generalize hM : build (srtE (fndL fs)) = M at hPR
      have hMin : ∀ x, x ∈ M → MkIn rows m x := fun x hx => (mem_row hbare).mp (by rw [hM]; exact hx)
      have hML : M.length ≤ 8000 := by
        rw [← hM, build_len, List.length_mergeSort]
        have z := fndL_len (l := fs) fun c hc => (bare_mem hbare hW.wb hc).1
        have z2 : (fs.map bare).length = fs.length := List.length_map _
        rw [hbare] at z2
        have z3 := chD_le (m := m) hW.wb.row 8
        omega
      clear hM hbare fs
      refine ⟨qr, rfl, ⟨_, SqL.of hq⟩, fun D0 hD0 => ?_⟩
      refine lc_list (K := K) (a := qr) (xs := us) (fun j H2 => Same H1 H2 ∧ ∃ acc : List V, H2 D0 = some (.lst acc) ∧ Paired (IsMk H2) acc (M.take j)) ?_ ?_ ?_ ?_
      · exact ⟨Same.new hD0, [], upd_same, .nil⟩
      · rintro j H2 _ ⟨s5, _⟩
        exact SqL.of (s5 _ _ hq)
      · rintro j y H2 gy ⟨s5, acc, hacc, hPa⟩
        obtain ⟨mk, gm, hy⟩ := p_get hPR gy
        obtain ⟨ya, y1, y2, y3, rfl, hya, hym⟩ := hy
        have hal : acc.length < sizeLine := by
          have q := Paired.length hPa
          rw [List.length_take] at q
          exact Nat.lt_of_lt_of_le (by omega : _ < 10000) (by decide)
        have tp : TT H2 (upd H2 D0 (.lst (acc ++ [y1]))) := TT.putL hacc
        refine ⟨rfl, _, rfl, ya, _, _, _, rfl, rfl, SqT.of (s5 _ _ hya), atI_nat (j := 0) rfl, acc, hacc, hal, same_put s5 hD0, acc ++ [y1], upd_same, ?_⟩
        rw [take_snoc gm]
        exact Paired.snoc (p_mono hPa fun _ _ q => q.tt tp) ((hym.tt (TT.of s5)).tt tp)
      · rintro H2 ⟨s5, mv, hmv, hPM⟩
        have ea2 : M.take us.length = M := List.take_of_length_le (by rw [Paired.length hPR]; exact Nat.le_refl _)
        rw [ea2] at hPM
        have e2 := e1.trans (Ex.of s5)
        have hlm := Paired.length hPM
        clear ea2 hPR hq
        refine ⟨Nat.zero_le _, fun rl hrl => ?_⟩
        have s6 := Same.new (o := .lst []) hrl
        refine ⟨_, rfl, _, rfl, _, _, rfl, rfl, q, _, rfl, hDr.ex (e2.trans (Ex.of s6)), by omega, fun v hv => ?_⟩
        have hm0 : 0 ≤ v % 4 := Int.emod_nonneg _ (by decide)
        have hm1 : v % 4 < 4 := Int.emod_lt_of_pos _ (by decide)
        refine ⟨_, _, rfl, rfl, (by show (0 : Int) < _; decide), _, rfl, by omega, by omega, ?_⟩
        generalize v % 4 = n at hm0 hm1
        refine for_range (lo := 0) (n := n.toNat) (fun j σ H4 => ∃ (w8 : Option V) (rv : List V) (ms : List Mark), σ = [some (.ref q), some (.int ix), some (.ref a), some (.int (r : Nat)), some (.ref b), some (.str m), some (.ref D0), some (.ref rl), w8, none, none, none, none, none] ∧ Same H2 H4 ∧
            H4 rl = some (.lst rv) ∧ Paired (IsMk H4) rv ms ∧ rv.length ≤ j ∧ ∀ x ∈ ms, MkIn rows m x) ?_ ?_ ?_
        · exact ⟨none, [], [], rfl, s6, upd_same, .nil, Nat.le_refl _, fun x hx => nomatch hx⟩
        · rintro j σ H4 hj ⟨w8, rv, ms, rfl, s7, hr4, hP4, hl4, hm4⟩
          have ez : (0 : Int) + (j : Nat) = ((j : Nat) : Int) := by omega
          rw [ez]
          have hmv4 := s7 _ _ hmv
          refine ⟨_, rfl, D0, _, rfl, .inl (SqL.of hmv4), _, _, rfl, rfl, _, rfl, ?_⟩
          refine ite2 (fun h0 => ?_) (fun h0 => ⟨_, rv, ms, rfl, s7, hr4, hP4, by omega, hm4⟩)
          have h0 : (0 : Int) < ((mv.length : Nat) : Int) := of_decide_eq_true h0
          refine ⟨_, rfl, .inl ⟨rfl, _, SqL.of hr4⟩, _, rfl, _, rfl, _, rfl, _, _, rfl, rfl, _, rfl, _, _, rfl, rfl, q, _, rfl, hDr.ex (e2.trans (Ex.of s7)), by omega, fun v hv => ?_⟩
          obtain ⟨x, nx, hat, hgx⟩ := at_mod (xs := mv) (by omega) v
          obtain ⟨mk, gm, hx⟩ := p_get hPM hgx
          refine ⟨_, rfl, D0, _, rfl, .inl (SqL.of hmv4), _, _, rfl, rfl, h0, D0, _, _, _, rfl, rfl, SqL.of hmv4, hat, rl, rv, _, rfl, rfl, hr4, Nat.lt_of_lt_of_le (by omega : _ < 10000) (by decide), ?_⟩
          have tp : TT H4 (upd H4 rl (.lst (rv ++ [x]))) := TT.putL hr4
          refine ⟨_, rv ++ [x], ms ++ [mk], rfl, same_put s7 hrl, upd_same, Paired.snoc (p_mono hP4 fun _ _ z => z.tt tp) ((hx.tt (TT.of s7)).tt tp), by rw [List.length_append, List.length_singleton]; omega, fun y hy => ?_⟩
          rcases List.mem_append.mp hy with z | z
          · exact hm4 y z
          · rw [List.mem_singleton.mp z]
            exact hMin _ (List.mem_of_getElem? gm)
        · rintro σ H4 ⟨w8, rv, ms, rfl, s7, hr4, hP4, hl4, hm4⟩
          have hmv4 := s7 _ _ hmv
          have hPM4 := p_mono hPM fun _ _ z => z.tt (TT.of s7)
          have e4 := e2.trans (Ex.of s7)
          have hl4 : rv.length ≤ 4 := by omega
          clear hPM hmv hrl s6 s7 e2
          refine ⟨fun σ H5 => ∃ (bv : V) (beh : Option Mark), σ = [some (.ref q), some (.int ix), some (.ref a), some (.int (r : Nat)), some (.ref b), some (.str m), some (.ref D0), some (.ref rl), w8, some bv, none, none, none, none] ∧ H5 = H4 ∧ IsOM H4 bv beh ∧ ∀ b, beh = some b → MkIn rows m b, ?_, ?_⟩
          · refine ⟨_, rfl, D0, _, rfl, .inl (SqL.of hmv4), _, _, rfl, rfl, _, rfl, ?_⟩
            refine ite2 (fun h0 => ?_) (fun h0 => ⟨_, none, rfl, rfl, rfl, fun b z => nomatch z⟩)
            have h0 : (0 : Int) < ((mv.length : Nat) : Int) := of_decide_eq_true h0
            refine ⟨_, rfl, _, rfl, _, _, rfl, rfl, q, _, rfl, hDr.ex e4, by omega, fun v hv => ?_⟩
            refine ⟨_, _, rfl, rfl, (by show (0 : Int) < _; decide), rfl, _, rfl, ?_⟩
            refine ite2 (fun h1 => ?_) (fun h1 => ⟨_, none, rfl, rfl, rfl, fun b z => nomatch z⟩)
            refine ⟨_, rfl, _, rfl, _, rfl, _, _, rfl, rfl, q, _, rfl, hDr.ex e4, by omega, fun v hv => ?_⟩
            refine ⟨_, _, rfl, rfl, ⟨by decide, by decide⟩, ?_⟩
            obtain ⟨x, nx, hat, hgx⟩ := at_mod (xs := mv) (by omega) (v / 5)
            obtain ⟨mk, gm, hx⟩ := p_get hPM4 hgx
            refine ⟨_, rfl, D0, _, rfl, .inl (SqL.of hmv4), _, _, rfl, rfl, h0, D0, _, _, _, rfl, rfl, SqL.of hmv4, hat, ?_⟩
            refine ⟨x, some mk, rfl, rfl, hx, fun b z => ?_⟩
            cases z
            exact hMin _ (List.mem_of_getElem? gm)
          · rintro σ H5 ⟨bv, beh, rfl, rfl, hbv, hbm⟩
            refine ⟨_, rfl, _, rfl, by show 1 ≤ sizeLine; decide, fun l1 hl1 => ?_⟩
            have s8 := Same.new (o := .lst [bv]) hl1
            refine ⟨rl, l1, rv, _, rfl, rfl, s8 _ _ hr4, upd_same, Nat.le_trans (by simp; omega : _ ≤ 10) (by decide), fun ca hca => ?_⟩
            have s9 := s8.trans (Same.new (o := .lst (rv ++ [bv])) hca)
            have e6 := e4.trans (Ex.of s9)
            have hP6 := p_mono hP4 fun _ _ z => z.tt (TT.of s9)
            have hr6 := s9 _ _ hr4
            have hbv6 := hbv.tt (TT.of s9)
            refine ⟨ca, rfl, ⟨_, SqL.of upd_same⟩, ?_⟩
            have hca6 : upd (upd H5 l1 (.lst [bv])) ca (.lst (rv ++ [bv])) ca = some (.lst (rv ++ [bv])) := upd_same
            generalize upd (upd H5 l1 (.lst [bv])) ca (.lst (rv ++ [bv])) = H6 at e6 hP6 hr6 hbv6 hca6
            clear s8 s9 hl1 hca hbv hP4 hr4 hPM4 hmv4
            refine for_list (K := K) (a := ca) (xs := rv ++ [bv]) (fun i σ H7 => ∃ (w11 : Option V) (N : Int), σ = [some (.ref q), some (.int ix), some (.ref a), some (.int (r : Nat)), some (.ref b), some (.str m), some (.ref D0), some (.ref rl), w8, some bv, some (.int N), w11, none, none] ∧ H7 = H6 ∧ 1 ≤ N ∧ N ≤ B ∧ ∀ b, beh = some b → rv.length < i → b.1 + 1 ≤ N) ?_ ?_ ?_ ?_
            · exact ⟨none, 1, rfl, rfl, by decide, hB1, fun b _ z => absurd z (by omega)⟩
            · rintro i σ H7 _ ⟨w11, N, rfl, rfl, _⟩
              exact SqL.of hca6
            · rintro i x σ H7 gx ⟨w11, N, rfl, rfl, hN1, hN2, hN3⟩
              have hx : ∃ om : Option Mark, IsOM H7 x om ∧ (∀ b, om = some b → MkIn rows m b) ∧ (rv.length ≤ i → om = beh) := by
                by_cases q : i < rv.length
                · rw [List.getElem?_append_left q] at gx
                  obtain ⟨mk, gm, hx⟩ := p_get hP6 gx
                  exact ⟨some mk, hx, fun b z => by cases z; exact hm4 _ (List.mem_of_getElem? gm), fun z => absurd z (by omega)⟩
                · have q2 : i = rv.length := by
                    have := lt_of_get gx
                    rw [List.length_append, List.length_singleton] at this
                    omega
                  subst q2
                  rw [List.getElem?_append_right (Nat.le_refl _), Nat.sub_self] at gx
                  cases gx
                  exact ⟨beh, hbv6, hbm, fun _ => rfl⟩
              obtain ⟨om, hx1, hx2, hx3⟩ := hx
              refine ⟨_, rfl, rfl, _, rfl, ?_⟩
              cases om with
              | none =>
                have hx1 : x = .non := hx1
                subst hx1
                refine iteF ⟨_, N, rfl, rfl, hN1, hN2, fun b hb hi => ?_⟩
                rw [← hx3 (by omega)] at hb
                cases hb
              | some mk =>
                obtain ⟨ba, rfl, hba⟩ := (show IsMk H7 x mk from hx1)
                have hs := (hW.small (by omega) (hx2 mk rfl)).2
                refine iteT ⟨_, rfl, _, rfl, ba, _, _, _, rfl, rfl, SqT.of hba, atI_nat (j := 0) rfl, _, _, rfl, rfl, _, _, rfl, ?_⟩
                refine ⟨_, _, rfl, rfl, by split <;> omega, by split <;> omega, fun b hb hi => ?_⟩
                rw [← hx3 (by omega)] at hb
                cases hb
                split <;> omega
            · rintro σ H7 ⟨w11, N, rfl, rfl, hN1, hN2, hN3⟩
              have hN3 : ∀ b, beh = some b → b.1 + 1 ≤ N := fun b hb => hN3 b hb (by rw [List.length_append, List.length_singleton]; omega)
              have hRA7 := RowAt.ex hRA e6
              obtain ⟨vs', hb1, hb2⟩ := id hRA7
              refine ⟨_, rfl, b, rfl, ⟨_, SqL.of hb1⟩, ?_⟩
              refine for_list (K := K) (a := b) (xs := vs') (fun i σ H8 => ∃ (w12 : Option V) (N' : Int), σ = [some (.ref q), some (.int ix), some (.ref a), some (.int (r : Nat)), some (.ref b), some (.str m), some (.ref D0), some (.ref rl), w8, some bv, some (.int N'), w11, w12, none] ∧ H8 = H7 ∧ N ≤ N' ∧ N' ≤ B ∧
                  ∀ d ∈ ds.take i, ∀ m rem beh num text, d = Deed.chg m rem beh num text → num + (text.cps.size : Int) ≤ N') ?_ ?_ ?_ ?_
              · exact ⟨none, N, rfl, rfl, Int.le_refl _, hN2, fun d hd => by rw [List.take_zero] at hd; cases hd⟩
              · rintro j σ H8 _ ⟨w12, N', rfl, rfl, _⟩
                exact SqL.of hb1
              · rintro j y σ H8 gy ⟨w12, N', rfl, rfl, hn1, hn2, hn3⟩
                obtain ⟨d, gdd, hd⟩ := p_get hb2 gy
                obtain ⟨da, dxs, rfl, hda, hd0⟩ := deed_tag hd
                have eT := take_snoc gdd
                refine ⟨_, rfl, da, _, _, _, rfl, rfl, SqT.of hda, atI_nat (j := 0) hd0, rfl, _, rfl, ?_⟩
                rw [tag_change]
                cases d with
                | bak p =>
                  refine iteF ⟨_, N', rfl, rfl, hn1, hn2, fun d hd => ?_⟩
                  rw [eT] at hd
                  rcases List.mem_append.mp hd with z | z
                  · exact hn3 d z
                  · rw [List.mem_singleton.mp z]
                    intro m rem beh num text e
                    cases e
                | chg m' rem beh' num text =>
                  refine iteT ?_
                  obtain ⟨a2, td, bv2, bs2, e2, hda2, _⟩ := hd
                  cases e2
                  have hm := List.mem_of_getElem? gdd
                  rw [← gd] at hm
                  obtain ⟨z0, z1, z2, _⟩ := hW.deed r _ hm
                  refine ⟨_, rfl, _, rfl, da, _, _, _, rfl, rfl, SqT.of hda2, atI_nat (j := 4) rfl, _, rfl, da, _, _, _, rfl, rfl, SqT.of hda2, atI_nat (j := 5) rfl, text, rfl, Nat.le_trans (show text.cps.size ≤ 10 from z0.2.1) (by decide), _, _, rfl, rfl, _, _, rfl, ?_⟩
                  have zl : (text.length : Int) = (text.cps.size : Int) := rfl
                  refine ⟨_, _, rfl, rfl, ?_, ?_, fun d hd => ?_⟩
                  · split <;> omega
                  · split <;> omega
                  · rw [eT] at hd
                    rcases List.mem_append.mp hd with z | z
                    · intro m rem beh num text e
                      have := hn3 d z m rem beh num text e
                      split <;> omega
                    · rw [List.mem_singleton.mp z]
                      intro m rem beh num text e
                      cases e
                      split <;> omega
              · rintro σ H8 ⟨w12, N', rfl, rfl, hn1, hn2, hn3⟩
                have et : ds.take vs'.length = ds := List.take_of_length_le (by rw [Paired.length hb2]; exact Nat.le_refl _)
                rw [et] at hn3
                refine ⟨_, rfl, by show 4 ≤ sizeLine; decide, fun l2 hl2 => ?_⟩
                have s10 := Same.new (o := .lst [.int 0, .int 0, .int 1, .int 5]) hl2
                have e9 := e6.trans (Ex.of s10)
                refine ⟨_, rfl, _, rfl, _, _, rfl, rfl, q, _, rfl, hDr.ex e9, by omega, fun v hv => ?_⟩
                obtain ⟨ad, hat, had0, had1⟩ := at_four (v % 4) (Int.emod_nonneg _ (by decide)) (Int.emod_lt_of_pos _ (by decide))
                refine ⟨_, _, rfl, rfl, (by show (0 : Int) < _; decide), l2, _, _, _, rfl, rfl, SqL.of upd_same, hat, _, _, rfl, rfl, ?_⟩
                clear hat
                have hP9 := p_mono hP6 fun _ _ z => z.tt (TT.of s10)
                have hr9 := s10 _ _ hr6
                have hbv9 := hbv6.tt (TT.of s10)
                generalize upd H8 l2 (.lst [.int 0, .int 0, .int 1, .int 5]) = H9 at e9 hP9 hr9 hbv9
                refine ⟨fun σ H10 => ∃ N2 : Int, σ = [some (.ref q), some (.int ix), some (.ref a), some (.int (r : Nat)), some (.ref b), some (.str m), some (.ref D0), some (.ref rl), w8, some bv, some (.int N2), w11, w12, none] ∧ H10 = H9 ∧ N' ≤ N2 ∧ N2 ≤ B + 5, ?_, ?_⟩
                · refine ⟨_, rfl, _, rfl, _, _, rfl, rfl, q, _, rfl, hDr.ex e9, by omega, fun v hv => ?_⟩
                  refine ⟨_, _, rfl, rfl, ⟨by decide, by decide⟩, _, _, rfl, rfl, (by show (0 : Int) < _; decide), rfl, _, rfl, ?_⟩
                  refine ite2 (fun h0 => ?_) (fun h0 => ⟨_, rfl, rfl, by omega, by omega⟩)
                  refine ⟨_, rfl, _, rfl, a, rows, B, rfl, RowsL.ex ⟨bs, ha, hP⟩ e9, hW, by omega, fun lv h0 h1 => ?_⟩
                  refine ⟨_, _, rfl, rfl, _, _, rfl, ?_⟩
                  exact ⟨_, rfl, rfl, by split <;> omega, by split <;> omega⟩
                · rintro σ H10 ⟨N2, rfl, rfl, hN4, hN5⟩
                  refine ⟨_, rfl, _, rfl, rl, _, rfl, .inl ⟨SqL.of hr9, fun tt htt => ?_⟩⟩
                  have s11 := Same.new (o := .tup rv) htt
                  refine ⟨_, rfl, _, rfl, _, rfl, _, rfl, _, _, rfl, rfl, q, _, rfl, hDr.ex (e9.trans (Ex.of s11)), by omega, fun z hz hzok => ?_⟩
                  refine ⟨by show 6 ≤ sizeLine; decide, fun t6 ht6 => ?_⟩
                  have s12 := Same.new (o := .tup [.str "change", .str m, .ref tt, bv, .int N2, .str z]) ht6
                  have s13 := s11.trans s12
                  obtain ⟨bs3, eb1, eb2, eb3⟩ := mks_addr hP9
                  refine k _ _ (.chg m ms beh N2 z) (e9.trans (Ex.of s13)) ⟨t6, tt, bv, bs3, rfl, upd_same, ?_, eb2, fun y hy => TT.of s13 _ _ (eb3 y hy), hbv9.tt (TT.of s13)⟩ ?_ ?_
                  · rw [← eb1]
                    exact s12 _ _ upd_same
                  · refine ⟨⟨?_, by omega, fun x hx => (hW.small (by omega) (hm4 x hx)).1, hmok, hzok⟩, by omega, by omega, fun b hb => ⟨hbm b hb, ?_⟩⟩
                    · rw [← Paired.length hP9]; omega
                    · have := hN3 b hb
                      omega
                  · intro d' hd'
                    cases d' with
                    | bak p => trivial
                    | chg m2 rem2 beh2 num2 text2 =>
                      have := hn3 _ hd' _ _ _ _ _ rfl
                      show num2 + (text2.cps.size : Int) ≤ N2
                      omega
end
end Q3

set_option Elab.async false
set_option linter.all false
set_option maxRecDepth 100000
set_option maxHeartbeats 4000000
/-! rows and counts in the heap, as they grow -/
namespace Q3
open PySem PySem.Spec PyProof.Rows L2 LamX
def CtAt (H : Hp) (b : Addr) (c : List Nat) : Prop := H b = some (.lst (c.map fun n : Nat => V.int (n : Int)))
/-- rows that came behind H0 -/
structure S1 (H0 H : Hp) (a : Addr) (bs : List Addr) (rows : List (List Deed)) : Prop where
  nd : bs.Nodup
  na : a ∉ bs
  fa : H0 a = none
  fr : ∀ x ∈ bs, H0 x = none
  ha : H a = some (.lst (bs.map V.ref))
  hb : Paired (RowAt H) bs rows
/-- a list of counts that came behind H0 -/
structure S2 (H0 H : Hp) (cl : Addr) (cbs : List Addr) (cs : List (List Nat)) : Prop where
  nd : cbs.Nodup
  na : cl ∉ cbs
  fa : H0 cl = none
  fr : ∀ x ∈ cbs, H0 x = none
  hc : H cl = some (.lst (cbs.map V.ref))
  hcb : Paired (CtAt H) cbs cs
theorem paired_some {α : Type} {R : Addr → α → Prop} {H : Hp} {l : List Addr} {m : List α} (h : Paired R l m) (k : ∀ a b, R a b → H a ≠ none) : ∀ x ∈ l, H x ≠ none := by
  intro x hx
  obtain ⟨i, hi⟩ := List.mem_iff_getElem?.mp hx
  obtain ⟨b, _, q⟩ := p_get h hi
  exact k _ _ q
section
variable {T : List (Addr × Str)} {H0 H H' : Hp} {a cl : Addr} {bs cbs : List Addr} {rows : List (List Deed)} {cs : List (List Nat)}
theorem S1.l (h : S1 H0 H a bs rows) : RowsL H a rows := ⟨bs, h.ha, h.hb⟩
theorem S1.sm (h : S1 H0 H a bs rows) : ∀ x ∈ bs, H x ≠ none := paired_some h.hb fun x b ⟨vs, q, _⟩ => by rw [q]; simp
theorem S2.sm (h : S2 H0 H cl cbs cs) : ∀ x ∈ cbs, H x ≠ none := paired_some h.hcb fun x b q => by rw [show H x = _ from q]; simp
theorem S1.ex (h : S1 H0 H a bs rows) (e : Ex T H H') : S1 H0 H' a bs rows := ⟨h.nd, h.na, h.fa, h.fr, e.at h.ha, p_mono h.hb fun _ _ q => q.ex e⟩
theorem S2.ex (h : S2 H0 H cl cbs cs) (e : Ex T H H') : S2 H0 H' cl cbs cs := ⟨h.nd, h.na, h.fa, h.fr, e.at h.hc, p_mono h.hcb fun _ _ q => e.at q⟩
/-- a write elsewhere -/
theorem S1.off (h : S1 H0 H a bs rows) {x : Addr} {o : HO} (hx : x ∉ a :: bs) (t : TT H (upd H x o)) : S1 H0 (upd H x o) a bs rows := by
  refine ⟨h.nd, h.na, h.fa, h.fr, ?_, p_monoM h.hb fun b hb ds ⟨vs, q1, q2⟩ => ⟨vs, ?_, p_mono q2 fun _ _ z => z.tt t⟩⟩
  · rw [upd_ne (fun z => hx (by rw [z]; exact List.mem_cons_self))]; exact h.ha
  · rw [upd_ne (fun z => hx (by rw [← z]; exact List.mem_cons_of_mem _ hb))]; exact q1
theorem S2.off (h : S2 H0 H cl cbs cs) {x : Addr} {o : HO} (hx : x ∉ cl :: cbs) : S2 H0 (upd H x o) cl cbs cs := by
  refine ⟨h.nd, h.na, h.fa, h.fr, ?_, p_monoM h.hcb fun b hb c q => ?_⟩
  · rw [upd_ne (fun z => hx (by rw [z]; exact List.mem_cons_self))]; exact h.hc
  · show upd H x o b = _
    rw [upd_ne (fun z => hx (by rw [← z]; exact List.mem_cons_of_mem _ hb))]; exact q
/-- the row r -/
theorem S1.row (h : S1 H0 H a bs rows) {r : Nat} (hr : r < rows.length) : ∃ b vs, bs[r]? = some b ∧ (bs.map V.ref)[r]? = some (V.ref b) ∧ b ∈ bs ∧ H b = some (.lst vs) ∧ Paired (IsDeed H) vs (rows.getD r []) := by
  have gr : rows[r]? = some rows[r] := List.getElem?_eq_getElem hr
  obtain ⟨b, gb, vs, h1, h2⟩ := p_get' h.hb gr
  refine ⟨b, vs, gb, by rw [List.getElem?_map, gb]; rfl, List.mem_of_getElem? gb, h1, ?_⟩
  rw [List.getD_eq_getElem?_getD, gr]
  exact h2
/-- a deed behind a row -/
theorem S1.add (h : S1 H0 H a bs rows) {r : Nat} {b : Addr} {vs : List V} {dv : V} {d : Deed} (gb : bs[r]? = some b) (hb : H b = some (.lst vs)) (hv : Paired (IsDeed H) vs (rows.getD r [])) (hd : IsDeed H dv d) : S1 H0 (upd H b (.lst (vs ++ [dv]))) a bs (addR rows r d) := by
  have tt : TT H (upd H b (.lst (vs ++ [dv]))) := TT.putL hb
  have hm := List.mem_of_getElem? gb
  refine ⟨h.nd, h.na, h.fa, h.fr, ?_, ?_⟩
  · rw [upd_ne (fun z => h.na (by rw [z]; exact hm))]; exact h.ha
  · unfold addR
    exact p_upd h.hb h.nd gb (fun c ρ ne ⟨us, h1, h2⟩ => ⟨us, by rw [upd_ne ne]; exact h1, p_mono h2 fun _ _ q => q.tt tt⟩) ⟨_, upd_same, Paired.snoc (p_mono hv fun _ _ q => q.tt tt) (hd.tt tt)⟩
/-- counts[r] = a new list -/
theorem S2.set (h : S2 H0 H cl cbs cs) {r : Nat} {p : Addr} {c : List Nat} (hp : CtAt H p c) (hn : p ∉ cl :: cbs) (h0 : H0 p = none) : S2 H0 (upd H cl (.lst ((cbs.set r p).map V.ref))) cl (cbs.set r p) (cs.set r c) := by
  have hsub : ∀ x ∈ cbs.set r p, x = p ∨ x ∈ cbs := fun x hx => (List.mem_or_eq_of_mem_set hx).symm
  have hna : cl ∉ cbs.set r p := fun z => by
    rcases hsub _ z with q | q
    · exact hn (by rw [← q]; exact List.mem_cons_self)
    · exact h.na q
  refine ⟨?_, hna, h.fa, fun x hx => ?_, upd_same, ?_⟩
  · have hnp : p ∉ cbs := fun z => hn (List.mem_cons_of_mem _ z)
    have key : ∀ (l : List Addr) (r : Nat), l.Nodup → p ∉ l → (l.set r p).Nodup := by
      intro l
      induction l with
      | nil => intro r _ _; exact .nil
      | cons y l ih =>
        intro r hl hp
        obtain ⟨h1, h2⟩ := List.nodup_cons.mp hl
        cases r with
        | zero => exact List.nodup_cons.mpr ⟨fun z => hp (List.mem_cons_of_mem _ z), h2⟩
        | succ r =>
          refine List.nodup_cons.mpr ⟨fun z => ?_, ih r h2 fun z => hp (List.mem_cons_of_mem _ z)⟩
          rcases List.mem_or_eq_of_mem_set z with q | q
          · exact h1 q
          · exact hp (by rw [← q]; exact List.mem_cons_self)
    exact key cbs r h.nd hnp
  · rcases hsub _ hx with q | q
    · rw [q]; exact h0
    · exact h.fr _ q
  · refine p_monoM (p_set h.hcb hp) fun b hb c q => ?_
    show upd H cl _ b = _
    rw [upd_ne (fun z => hna (by rw [← z]; exact hb))]
    exact q
/-- the list counts[r] is written -/
theorem S2.put (h : S2 H0 H cl cbs cs) {r : Nat} {p : Addr} {c : List Nat} (gp : cbs[r]? = some p) : S2 H0 (upd H p (.lst (c.map fun n : Nat => V.int (n : Int)))) cl cbs (cs.set r c) := by
  have hm := List.mem_of_getElem? gp
  refine ⟨h.nd, h.na, h.fa, h.fr, ?_, ?_⟩
  · rw [upd_ne (fun z => h.na (by rw [z]; exact hm))]; exact h.hc
  · exact p_upd h.hcb h.nd gp (fun b c ne q => by show upd H p _ b = _; rw [upd_ne ne]; exact q) upd_same
/-- one more count -/
theorem S2.add (h : S2 H0 H cl cbs cs) {p : Addr} {c : List Nat} (hp : CtAt H p c) (hn : p ∉ cl :: cbs) (h0 : H0 p = none) : S2 H0 (upd H cl (.lst (cbs.map V.ref ++ [V.ref p]))) cl (cbs ++ [p]) (cs ++ [c]) := by
  have hna : cl ∉ cbs ++ [p] := fun z => by
    rcases List.mem_append.mp z with q | q
    · exact h.na q
    · exact hn (by rw [← List.mem_singleton.mp q]; exact List.mem_cons_self)
  refine ⟨?_, hna, h.fa, fun x hx => ?_, by rw [upd_same, List.map_append]; rfl, ?_⟩
  · rw [List.nodup_append]
    refine ⟨h.nd, by simp, fun x hx y hy e => ?_⟩
    rw [List.mem_singleton.mp hy] at e
    exact hn (by rw [← e]; exact List.mem_cons_of_mem _ hx)
  · rcases List.mem_append.mp hx with q | q
    · exact h.fr _ q
    · rw [List.mem_singleton.mp q]; exact h0
  · refine p_monoM (Paired.snoc h.hcb hp) fun b hb c q => ?_
    show upd H cl _ b = _
    rw [upd_ne (fun z => hna (by rw [← z]; exact hb))]
    exact q
end
/-- a triple -/
def IsTrip (H : Hp) (v : V) (t : Nat × Deed) : Prop := ∃ (a : Addr) (n dv : V), v = .ref a ∧ H a = some (.tup [.int (t.1 : Nat), n, dv]) ∧ IsDeed H dv t.2
theorem IsTrip.tt {H H' : Hp} {v : V} {t : Nat × Deed} (h : IsTrip H v t) (q : TT H H') : IsTrip H' v t := by
  obtain ⟨a, n, dv, h1, h2, h3⟩ := h
  exact ⟨a, n, dv, h1, q _ _ h2, h3.tt q⟩
def TripAt (H : Hp) (a : Addr) (T : List (Nat × Deed)) : Prop := ∃ vs, H a = some (.lst vs) ∧ Paired (IsTrip H) vs T
theorem TripAt.ex {T : List (Addr × Str)} {H H' : Hp} {a : Addr} {S : List (Nat × Deed)} (h : TripAt H a S) (e : Ex T H H') : TripAt H' a S := by
  obtain ⟨vs, h1, h2⟩ := h
  exact ⟨vs, e.at h1, p_mono h2 fun _ _ q => q.tt e.tt⟩
theorem TripAt.same {H H' : Hp} {a : Addr} {S : List (Nat × Deed)} (h : TripAt H a S) (e : Same H H') : TripAt H' a S := h.ex (T := []) (Ex.of e)
theorem cut_take (xs : List V) (n : Nat) : cutV xs none (some (n : Int)) = xs.take n := by
  unfold cutV
  rw [HT.sIx_none, HT.sIx_nat, List.drop_zero, Nat.sub_zero]
  rcases Nat.le_total n xs.length with h | h
  · rw [Nat.min_eq_left h]
  · rw [Nat.min_eq_right h, List.take_of_length_le (Nat.le_refl _), List.take_of_length_le h]
theorem GoodT.mem {T : List (Nat × Deed)} (h : GoodT T) : ∀ t ∈ T, t.1 < 8 := by
  induction h with
  | nil => intro t ht; cases ht
  | snoc _ hr _ _ _ ih =>
    intro t ht
    rcases List.mem_append.mp ht with q | q
    · exact ih t q
    · rw [List.mem_singleton.mp q]; exact hr
theorem GoodT.len {T : List (Nat × Deed)} (h : GoodT T) : T.length ≤ 31 := by
  cases h with
  | nil => exact Nat.zero_le _
  | snoc _ _ hl _ _ => rw [List.length_append, List.length_singleton]; omega
def spLVis : Sp := fun vs H Q _ => ∃ (a c : Addr) (rows : List (List Deed)) (cs : List Nat), vs = [.ref a, .ref c] ∧ RowsL H a rows ∧ rows.length = 8 ∧ CtAt H c cs ∧ cs.length = 8 ∧ ∀ (H' : Hp) (q : Addr), Same H H' → RowsL H' q (visR rows cs) → Q (.ref q) H'
def spLRowsOf : Sp := fun vs H Q _ => ∃ (a : Addr) (S : List (Nat × Deed)), vs = [.ref a] ∧ TripAt H a S ∧ GoodT S ∧ ∀ (H' : Hp) (q : Addr), Same H H' → RowsL H' q (rowsOf S) → Q (.ref q) H'
def spLDeeds (C : Addr) : Sp := fun vs H Q _ => ∃ (a : Addr) (S : List (Nat × Deed)), vs = [.ref a] ∧ TripAt H a S ∧ GoodT S ∧ ∀ (H' : Hp) (q : Addr), DeedsIn C H H' q (rowsOf S) → Q (.ref q) H'
section
variable {P : Program} {w : World} {K : PySem.W.Frag} {mg : Str → Option Value} {base : Heap} {C : Addr}
theorem scLV : FnScope ["_law_rows", "_law_counts", "_law_k"] ["_law_rows", "_law_counts"] (defScope sLVisible) := ⟨rfl, rfl, rfl, by decide +kernel, rfl, by decide +kernel, by decide +kernel⟩
theorem cal_lvis {f : Addr} {fd : FuncData} (F : Fun K "_law_visible" "_law_visible" sLVisible f fd) (hm : mg "_law_visible" = some (.ref f)) (X : Txt K mg) : Cal P w K mg base 1 "_law_visible" spLVis := by
  refine ⟨f, fd, ["_law_rows", "_law_counts"], F.ok scLV (fun vs H Q E h => ?_) (fun cdv A outer s H vs Q E hr h => ?_), hm, F.kp, F.binds fun _ _ _ _ _ _ us hl => match us, hl with | [_, _], _ => rfl⟩
  · obtain ⟨a, c, rows, cs, rfl, _⟩ := h
    rfl
  · obtain ⟨a, c, rows, cs, rfl, ⟨bs, ha, hP⟩, h8, hc, hc8, k⟩ := h
    have nd := scLV.nd
    refine ⟨_, pss_one (ps_ret (pe_lc (own := [("_law_k", 2)]) (g := gName 2) (tt := tYes) (te := tSl (rSlL K) (tOp (rIxL K) (tVar 0) (tVar 2)) tNoPart (tPart (tOp (rIxL K) (tVar 1) (tVar 2)))) rfl nd (pi_range1 rfl X.range (pa_cons pe_int pa_nil)) (blkOk_by (N := ["_law_rows", "_law_counts", "_law_k"]) (sc := defScope sLVisible) (by decide +kernel))
      (fun _ _ _ _ _ => pg_name (i := 2) nd rfl (Or.inl rfl)) (fun _ _ _ _ _ => pts_nil) (fun _ _ _ _ _ => pe_slice sl_list (pe_ix ix_list (pv 0) (pv 2) (fun _ _ => rfl)) po_none (po_some (pe_ix ix_list (pv 1) (pv 2) (fun _ _ => rfl)))))), ?_⟩
    refine ⟨8, rfl, by decide, by decide, fun D0 hD => ?_⟩
    refine lc_range (lo := 0) (n := 8) (fun i H1 => Same H H1 ∧ ∃ bs' : List Addr, H1 D0 = some (.lst (bs'.map V.ref)) ∧ bs'.length = i ∧ (∀ x ∈ bs', x ≠ D0) ∧ Paired (RowAt H1) bs' ((visR rows cs).take i)) ?_ ?_ ?_
    · exact ⟨Same.new hD, [], upd_same, rfl, (fun x hx => nomatch hx), .nil⟩
    · rintro i H1 hi ⟨s1, bs', hL, hl, hnD, hPb⟩
      have ez : (0 : Int) + (i : Nat) = ((i : Nat) : Int) := by omega
      rw [ez]
      have gr : rows[i]? = some rows[i] := List.getElem?_eq_getElem (by omega)
      obtain ⟨b, gb, hRA⟩ := p_get' hP gr
      obtain ⟨vs, hv1, hv2⟩ := id hRA
      have ga : (bs.map V.ref)[i]? = some (V.ref b) := by rw [List.getElem?_map, gb]; rfl
      have gc : (cs.map fun n : Nat => V.int (n : Int))[i]? = some (V.int ((cs.getD i 0 : Nat) : Int)) := by
        rw [List.getElem?_map, List.getElem?_eq_getElem (by omega), List.getD_eq_getElem?_getD, List.getElem?_eq_getElem (by omega)]
        rfl
      have gv : (visR rows cs)[i]? = some ((rows.getD i []).take (cs.getD i 0)) := by
        unfold visR
        rw [List.getElem?_map, List.getElem?_range hi]
        rfl
      have gd : rows.getD i [] = rows[i] := by rw [List.getD_eq_getElem?_getD, gr]; rfl
      refine ⟨rfl, _, rfl, _, rfl, a, _, _, _, rfl, rfl, SqL.of (s1 _ _ ha), atI_nat ga, _, rfl, _, rfl, c, _, _, _, rfl, rfl, SqL.of (s1 _ _ hc), atI_nat gc, _, rfl, b, vs, rfl, SqL.of (s1 _ _ hv1), fun p hp => ?_⟩
      rw [cut_take]
      have ne := ne_of_none hL hp
      have s2 := Same.new (o := .lst (vs.take (cs.getD i 0))) hp
      have hL2 := s2 _ _ hL
      have tp : TT (upd H1 p (.lst (vs.take (cs.getD i 0)))) (upd (upd H1 p (.lst (vs.take (cs.getD i 0)))) D0 (.lst (bs'.map V.ref ++ [.ref p]))) := TT.putL hL2
      have hD0 : ∀ x ∈ bs' ++ [p], x ≠ D0 := by
        intro x hx e
        rcases List.mem_append.mp hx with q | q
        · exact hnD x q e
        · exact ne (by rw [← List.mem_singleton.mp q, e])
      refine ⟨_, hL2, by rw [List.length_map]; exact small1000 (by omega), same_put (s1.trans s2) hD, bs' ++ [p], by rw [upd_same, List.map_append]; rfl, by simp [hl], hD0, ?_⟩
      rw [take_snoc gv]
      have h1 : Paired (RowAt (upd H1 p (.lst (vs.take (cs.getD i 0))))) (bs' ++ [p]) ((visR rows cs).take i ++ [(rows.getD i []).take (cs.getD i 0)]) := by
        refine Paired.snoc (p_mono hPb fun _ _ q => q.same s2) ⟨_, upd_same, ?_⟩
        rw [gd]
        exact p_take _ (p_mono hv2 fun _ _ q => q.tt (TT.of (s1.trans s2)))
      exact p_monoM h1 fun x hx ds ⟨us, q1, q2⟩ => ⟨us, by rw [upd_ne (hD0 x hx)]; exact q1, p_mono q2 fun _ _ z => z.tt tp⟩
    · rintro H1 ⟨s1, bs', hL, hl, hnD, hPb⟩
      rw [List.take_of_length_le (by rw [visR_len]; exact Nat.le_refl _)] at hPb
      exact k H1 D0 s1 ⟨bs', hL, hPb⟩
theorem new_rows {k : Nat} {σ : L2.St} {H : Hp} {Q : VK} (hw : ∀ v, wipe ((wipe σ [k]).set k (some v)) [k] = wipe σ [k]) (h : ∀ (H' : Hp) (a : Addr) (bs : List Addr), Same H H' → S1 H H' a bs noRows → Q (.ref a) H') :
    tLc (iRng1 (tCons (tC (.int 8)) tNil)) (gName k) tYes (tLst tNil) [k] σ H Q := by
  refine ⟨8, rfl, by decide, by decide, fun D0 hD => ?_⟩
  refine lc_range (lo := 0) (n := 8) (fun i H1 => Same H H1 ∧ ∃ bs : List Addr, bs.length = i ∧ H1 D0 = some (.lst (bs.map V.ref)) ∧ bs.Nodup ∧ D0 ∉ bs ∧ (∀ b ∈ bs, H b = none ∧ H1 b = some (.lst []))) ?_ ?_ ?_
  · exact ⟨Same.new hD, [], rfl, upd_same, .nil, by simp, (fun b hb => nomatch hb)⟩
  · rintro i H1 hi ⟨s1, bs, hl, hL, hn, hnD, hb⟩
    refine ⟨hw _, Nat.zero_le _, fun l hl0 => ?_⟩
    have ne := ne_of_none hL hl0
    refine ⟨_, (Same.new hl0) _ _ hL, by rw [List.length_map]; exact small1000 (by omega), same_put (s1.trans (Same.new hl0)) hD, bs ++ [l], by simp [hl], ?_, ?_, ?_, ?_⟩
    · rw [upd_same, List.map_append]
      rfl
    · rw [List.nodup_append]
      refine ⟨hn, by simp, fun b hb1 c hc e => ?_⟩
      rw [List.mem_singleton.mp hc] at e
      have z := (hb b hb1).2
      rw [e, hl0] at z
      cases z
    · rw [List.mem_append, List.mem_singleton, not_or]
      exact ⟨hnD, ne⟩
    · intro b hb1
      rcases List.mem_append.mp hb1 with q | q
      · obtain ⟨z1, z2⟩ := hb b q
        refine ⟨z1, ?_⟩
        rw [upd_ne (fun z => hnD (by rw [← z]; exact q))]
        exact Same.new hl0 _ _ z2
      · rw [List.mem_singleton.mp q]
        refine ⟨s1.free hl0, ?_⟩
        rw [upd_ne ne.symm, upd_same]
  · rintro H1 ⟨s1, bs, hl, hL, hn, hnD, hb⟩
    refine h H1 D0 bs s1 ⟨hn, hnD, hD, fun b q => (hb b q).1, hL, ?_⟩
    have key : ∀ (bs : List Addr) (n : Nat), bs.length = n → (∀ b ∈ bs, H b = none ∧ H1 b = some (.lst [])) → Paired (RowAt H1) bs (List.replicate n []) := by
      intro bs
      induction bs with
      | nil => intro n h _; subst h; exact .nil
      | cons b r ih =>
        intro n h hb
        subst h
        exact .cons ⟨[], (hb b List.mem_cons_self).2, .nil⟩ (ih _ rfl fun c hc => hb c (List.mem_cons_of_mem _ hc))
    exact key bs 8 hl hb
theorem new_rowsS {k : Nat} {vs : List Nat} {σ : L2.St} {H : Hp} {g : TG} {u : TS} {D : Ends} (hv : vs = [k]) (hw : ∀ v, wipe ((wipe σ [k]).set k (some v)) [k] = wipe σ [k]) (h : ∀ (H' : Hp) (a : Addr) (bs : List Addr), Same H H' → S1 H H' a bs noRows → g (.ref a) σ H' (u D)) :
    tSeq (tAsg (tLc (iRng1 (tCons (tC (.int 8)) tNil)) (gName k) tYes (tLst tNil) vs) g) u D σ H := by
  subst hv
  exact new_rows (Q := fun x H1 => g x σ H1 (u D)) hw h
abbrev nRO : List Str := ["_law_triples_here", "_law_rows", "_law_k", "_law_replica", "_law_place", "_law_deed_here"]
theorem scLO : FnScope nRO ["_law_triples_here"] (defScope sLRowsOf) := ⟨rfl, rfl, rfl, by decide +kernel, rfl, by decide +kernel, by decide +kernel⟩
theorem cal_lrowsof {f : Addr} {fd : FuncData} (F : Fun K "_law_rows_of" "_law_rows_of" sLRowsOf f fd) (hm : mg "_law_rows_of" = some (.ref f)) (X : Txt K mg) : Cal P w K mg base 1 "_law_rows_of" spLRowsOf := by
  refine ⟨f, fd, ["_law_triples_here"], F.ok scLO (fun vs H Q E h => ?_) (fun cdv A outer s H vs Q E hr h => ?_), hm, F.kp, F.binds fun _ _ _ _ _ _ us hl => match us, hl with | [_], _ => rfl⟩
  · obtain ⟨a, S, rfl, _⟩ := h
    rfl
  · obtain ⟨a, S, rfl, hT, hG, k⟩ := h
    have nd := scLO.nd
    refine ⟨_, pss_cons (ps_setLc (i := 1) (own := [("_law_k", 2)]) (g := gName 2) (tt := tYes) (te := tLst tNil) rfl nd rfl rfl (sw_true rfl rfl rfl (by decide +kernel)) (pi_range1 rfl X.range (pa_cons pe_int pa_nil)) (blkOk_by (N := nRO) (sc := defScope sLRowsOf) (by decide +kernel))
        (fun _ _ _ _ _ => pg_name (i := 2) nd rfl (Or.inl rfl)) (fun _ _ _ _ _ => pts_nil) (fun _ _ _ _ _ => pe_lst pa_nil))
      (pss_cons (ps_for PassesOwn.never rfl (pi_list (pv 0)) (pg_tup rfl (pgs_cons (pg_name (i := 3) nd rfl (.inl rfl)) (pgs_cons (pg_name (i := 4) nd rfl (.inl rfl)) (pgs_cons (pg_name (i := 5) nd rfl (.inl rfl)) pgs_nil))))
        (pss_one (ps_expr (pe_bm PySem.F.plainAttrs_list PySem.F.slot_list_append PySem.F.type_list_append mt_append (pe_ix ix_list (pv 1) (pv 3) (fun _ _ => rfl)) (pa_cons (pv 5) pa_nil)))))
      (pss_one (ps_ret (pv 1)))), ?_⟩
    refine new_rowsS (k := 2) rfl (fun _ => rfl) fun H1 q bs s1 h1 => ?_
    obtain ⟨ts, ha, hP⟩ := id hT
    refine ⟨_, rfl, a, rfl, ⟨_, SqL.of (s1 _ _ ha)⟩, ?_⟩
    refine for_list (K := K) (a := a) (xs := ts) (fun i σ H2 => ∃ (w3 w4 w5 : Option V), σ = [some (.ref a), some (.ref q), none, w3, w4, w5] ∧ Same H H2 ∧ S1 H H2 q bs (rowsOf (S.take i))) ?_ ?_ ?_ ?_
    · exact ⟨none, none, none, rfl, s1, h1⟩
    · rintro i σ H2 _ ⟨w3, w4, w5, rfl, s2, _⟩
      exact SqL.of (s2 _ _ ha)
    · rintro i x σ H2 gx ⟨w3, w4, w5, rfl, s2, h2⟩
      obtain ⟨⟨r, d⟩, gt, ta, n, dv, rfl, hta, hdv⟩ := p_get hP gx
      have hr8 : r < 8 := hG.mem _ (List.mem_of_getElem? gt)
      obtain ⟨b, vs, gb, ga, hmb, hb, hv⟩ := h2.row (r := r) (by rw [rowsOf_len]; exact hr8)
      have hl := Paired.length hv
      have hl2 := row_len (S.take i) r
      rw [List.length_take] at hl2
      have hl3 := hG.len
      refine ⟨ta, _, rfl, SqT.of (s2 _ _ hta), rfl, _, _, rfl, _, _, rfl, _, _, rfl, rfl, ?_⟩
      refine ⟨_, rfl, _, rfl, q, _, _, _, rfl, rfl, SqL.of h2.ha, atI_nat ga, .inl ⟨rfl, _, SqL.of hb⟩, _, rfl, b, vs, _, rfl, rfl, hb, small1000 (by omega), ?_⟩
      refine ⟨_, _, _, rfl, same_put s2 (h2.fr b hmb), ?_⟩
      rw [take_snoc gt, rowsOf_snoc]
      exact h2.add gb hb hv (hdv.tt (TT.of s2))
    · rintro σ H2 ⟨w3, w4, w5, rfl, s2, h2⟩
      rw [List.take_of_length_le (by rw [Paired.length hP]; exact Nat.le_refl _)] at h2
      exact ⟨_, rfl, k H2 q s2 h2.l⟩
abbrev nLDs : List Str := ["_law_triples_here", "_law_deeds_here", "_law_replica", "_law_place", "_law_deed_here"]
theorem scLDs : FnScope nLDs ["_law_triples_here"] (defScope sLDeeds) := ⟨rfl, rfl, rfl, by decide +kernel, rfl, by decide +kernel, by decide +kernel⟩
theorem cal_ldeeds {f : Addr} {fd : FuncData} (F : Fun K "_law_deeds" "_law_deeds" sLDeeds f fd) (hm : mg "_law_deeds" = some (.ref f)) (GK : Mak P w K mg base 1 "Deeds" C (spDInit C)) (GAd : Met P w K mg base 1 C "add" (spDAdd C)) : Cal P w K mg base 3 "_law_deeds" (spLDeeds C) := by
  refine ⟨f, fd, ["_law_triples_here"], F.ok scLDs (fun vs H Q E h => ?_) (fun cdv A outer s H vs Q E hr h => ?_), hm, F.kp, F.binds fun _ _ _ _ _ _ us hl => match us, hl with | [_], _ => rfl⟩
  · obtain ⟨a, S, rfl, _⟩ := h
    rfl
  · obtain ⟨a, S, rfl, hT, hG, k⟩ := h
    have nd := scLDs.nd
    refine ⟨_, pss_cons (ps_set (i := 1) nd rfl (Or.inl rfl) (pe_k0 GK hr (by decide) rfl))
      (pss_cons (ps_for PassesOwn.never rfl (pi_list (pv 0)) (pg_tup rfl (pgs_cons (pg_name (i := 2) nd rfl (.inl rfl)) (pgs_cons (pg_name (i := 3) nd rfl (.inl rfl)) (pgs_cons (pg_name (i := 4) nd rfl (.inl rfl)) pgs_nil))))
        (pss_one (ps_expr (pe_mm GAd hr (by decide) (pv 1) (pa_cons (pv 2) (pa_cons (pv 4) pa_nil))))))
      (pss_one (ps_ret (pv 1)))), ?_⟩
    obtain ⟨ts, ha, hP⟩ := id hT
    intro p dx hp hdx hne
    have s0 : Same H (upd (upd H dx (.own p)) p (.ins C dx [])) := same_put (Same.new hdx) hp
    refine ⟨H, p, dx, rfl, s0, hp, upd_same, fun H1 h1 => ⟨rfl, ?_⟩⟩
    refine ⟨_, rfl, a, rfl, ⟨_, SqL.of (h1.1 _ _ ha)⟩, ?_⟩
    refine for_list (K := K) (a := a) (xs := ts) (fun i σ H2 => ∃ (w3 w4 w5 : Option V), σ = [some (.ref a), some (.ref p), w3, w4, w5] ∧ DeedsIn C H H2 p (rowsOf (S.take i))) ?_ ?_ ?_ ?_
    · exact ⟨none, none, none, rfl, h1⟩
    · rintro i σ H2 _ ⟨w3, w4, w5, rfl, h2⟩
      exact SqL.of (h2.1 _ _ ha)
    · rintro i x σ H2 gx ⟨w3, w4, w5, rfl, h2⟩
      obtain ⟨⟨r, d⟩, gt, ta, n, dv, rfl, hta, hdv⟩ := p_get hP gx
      have hr8 : r < 8 := hG.mem _ (List.mem_of_getElem? gt)
      have s2 := h2.1
      have hl2 := row_len (S.take i) r
      rw [List.length_take] at hl2
      have hl3 := hG.len
      refine ⟨ta, _, rfl, SqT.of (s2 _ _ hta), rfl, _, _, rfl, _, _, rfl, _, _, rfl, rfl, ?_⟩
      obtain ⟨_, _, dx2, a2, bs2, hp2, _⟩ := id h2
      have noA : ([("rows", V.ref a2)] : List (Str × V)).lookup ("add" : Str) = none := by
        rw [List.lookup_cons]
        have : (("add" : Str) == ("rows" : Str)) = false := by decide +kernel
        rw [this]
        rfl
      refine ⟨_, rfl, p, dx2, _, rfl, hp2, noA, _, rfl, _, rfl, H, p, _, r, dv, d, rfl, h2, by rw [rowsOf_len]; exact hr8, by omega, hdv.tt (TT.of s2), fun H3 h3 t3 => ?_⟩
      refine ⟨_, _, _, rfl, ?_⟩
      rw [take_snoc gt, rowsOf_snoc]
      exact h3
    · rintro σ H2 ⟨w3, w4, w5, rfl, h2⟩
      rw [List.take_of_length_le (by rw [Paired.length hP]; exact Nat.le_refl _)] at h2
      exact ⟨_, rfl, k H2 p h2⟩
end
end Q3

set_option Elab.async false
set_option linter.all false
set_option maxRecDepth 100000
set_option maxHeartbeats 8000000
/-! the law's triples -/
namespace Q3
open PySem PySem.Spec PyProof.Rows L2 LamX
abbrev nTr : List Str := ["_law_draws_here", "_law_start", "_law_steps", "_law_most", "_law_rows", "_law_counts", "_law_k", "_law_j", "_law_triples_here", "_law_base", "_law_replica", "_law_other", "_law_deed_here"]
def spLTrip (T : List (Addr × Str)) : Sp := fun vs H Q _ => ∃ (q : Addr) (st : Int) (sn mo : Nat), vs = [.ref q, .int st, .int (sn : Nat), .int (mo : Nat)] ∧ DrAt H q ∧ 0 ≤ st ∧ sn ≤ 22 ∧ 1 ≤ mo ∧ mo ≤ 5 ∧ Tabs T H ∧
  ∀ (H' : Hp) (p : Addr) (S : List (Nat × Deed)), Ex T H H' → TripAt H' p S → GoodT S → Q (.ref p) H'
theorem ct0 (rows : List (List Deed)) (hl : rows.length = 8) : CtOk rows (List.replicate 8 0) := by
  have z : ∀ k, (List.replicate 8 0).getD k 0 = 0 := fun k => by
    rw [List.getD_eq_getElem?_getD, List.getElem?_replicate]
    split <;> rfl
  refine ⟨rfl, fun k => by rw [z]; exact Nat.zero_le _, fun r m rem beh num text h => ?_⟩
  rw [visR_get hl, z, List.take_zero] at h
  cases h
abbrev ctV (c : List Nat) : List V := c.map fun n : Nat => V.int (n : Int)
theorem ctV_get {c : List Nat} {k : Nat} (h : k < c.length) : (ctV c)[k]? = some (V.int ((c.getD k 0 : Nat) : Int)) := by
  rw [List.getElem?_map, List.getElem?_eq_getElem h, List.getD_eq_getElem?_getD, List.getElem?_eq_getElem h]
  rfl
theorem ixN_nat {n k : Nat} (h : k < n) : ixN n (k : Int) = some k := by
  unfold ixN
  rw [if_pos (by omega), if_pos (by omega), Int.toNat_natCast]
/-- a heap without its tables -/
def noTab (H : Hp) : Hp := fun b => match H b with
  | some (.tbl _) => none
  | o => o
theorem noTab_none {H : Hp} {l : Addr} (h : H l = none) : noTab H l = none := by unfold noTab; rw [h]
theorem noTab_of {H : Hp} {l : Addr} (h : noTab H l = none) {o : HO} (q : H l = some o) : ∃ ps, o = .tbl ps := by
  unfold noTab at h
  rw [q] at h
  cases o with
  | tbl ps => exact ⟨ps, rfl⟩
  | _ => cases h
theorem exFree {T : List (Addr × Str)} {H H4 : Hp} {l : Addr} (e : Ex T H H4) (h : H4 l = none) : noTab H l = none := by
  cases q : H l with
  | none => exact noTab_none q
  | some o =>
    cases o with
    | tbl ps => unfold noTab; rw [q]
    | _ =>
      have := e.ext l _ q (fun ps z => by cases z)
      rw [h] at this
      cases this
theorem exPut {T : List (Addr × Str)} {H0 H : Hp} {l : Addr} {xs : List V} {o' : HO} (e : Ex T H0 H) (h0 : noTab H0 l = none) (h : H l = some (.lst xs)) : Ex T H0 (upd H l o') := by
  refine ⟨fun b u q nt => ?_, fun t p hp => ?_⟩
  · rw [upd_ne (fun z => by
      subst z
      obtain ⟨ps, e⟩ := noTab_of h0 q
      exact nt ps e)]
    exact e.ext b u q nt
  · obtain ⟨ps, e1, e2, e3⟩ := e.tab t p hp
    refine ⟨ps, ?_, e2, fun pos cv hc => ?_⟩
    · rw [upd_ne (fun z => by rw [z, h] at e1; cases e1)]
      exact e1
    · obtain ⟨c, c1, c2⟩ := e3 pos cv hc
      refine ⟨c, c1, ?_⟩
      rw [upd_ne (fun z => by rw [z, h] at c2; cases c2)]
      exact c2
theorem S1.nt {H H' : Hp} {a : Addr} {bs : List Addr} {rows : List (List Deed)} (h : S1 H H' a bs rows) : S1 (noTab H) H' a bs rows := ⟨h.nd, h.na, noTab_none h.fa, fun x hx => noTab_none (h.fr x hx), h.ha, h.hb⟩
theorem S2.nt {H H' : Hp} {a : Addr} {bs : List Addr} {rows : List (List Nat)} (h : S2 H H' a bs rows) : S2 (noTab H) H' a bs rows := ⟨h.nd, h.na, noTab_none h.fa, fun x hx => noTab_none (h.fr x hx), h.hc, h.hcb⟩
/-- where things stand ahead of a turn -/
structure TrI (T : List (Addr × Str)) (H H4 : Hp) (a cl tl : Addr) (bs cbs : List Addr) (cs : List (List Nat)) (S : List (Nat × Deed)) (mo : Nat) : Prop where
  ex : Ex T H H4
  s1 : S1 (noTab H) H4 a bs (rowsOf S)
  s2 : S2 (noTab H) H4 cl cbs cs
  ap : ∀ x ∈ cl :: cbs, x ∉ a :: bs
  t1 : tl ∉ a :: bs
  t2 : tl ∉ cl :: cbs
  t0 : noTab H tl = none
  tr : TripAt H4 tl S
  gd : GoodT S
  cn : cs.length = mo
  ok : ∀ c ∈ cs, CtOk (rowsOf S) c
  own : ∀ r c, cs[r]? = some c → c.getD r 0 = ((rowsOf S).getD r []).length
section
variable {P : Program} {w : World} {K : PySem.W.Frag} {mg : Str → Option Value} {base : Heap}
theorem scTr : FnScope nTr ["_law_draws_here", "_law_start", "_law_steps", "_law_most"] (defScope sLTriples) := ⟨rfl, rfl, rfl, by decide +kernel, rfl, by decide +kernel, by decide +kernel⟩
theorem cal_ltrip {T : List (Addr × Str)} {f : Addr} {fd : FuncData} (F : Fun K "_law_triples" "_law_triples" sLTriples f fd) (hm : mg "_law_triples" = some (.ref f)) (X : Txt K mg) (GA : Cal P w K mg base 2 "_law_at" spAt)
    (GD : Cal P w K mg base 4 "_law_deed" (spLDeed T)) (GV : Cal P w K mg base 1 "_law_visible" spLVis) : Cal P w K mg base 5 "_law_triples" (spLTrip T) := by
  refine ⟨f, fd, ["_law_draws_here", "_law_start", "_law_steps", "_law_most"], F.ok scTr (fun vs H Q E h => ?_) (fun cdv A outer s H vs Q E hr h => ?_), hm, F.kp, F.binds fun _ _ _ _ _ _ us hl => match us, hl with | [_, _, _, _], _ => rfl⟩
  · obtain ⟨q, st, sn, mo, rfl, _⟩ := h
    rfl
  · obtain ⟨q, st, sn, mo, rfl, hDr, hst, hsn, hmo1, hmo2, hT, k⟩ := h
    have nd := scTr.nd
    refine ⟨_, (pss_cons (ps_setLc (i := 4) (own := [("_law_k", 6)]) (g := gName 6) (tt := tYes) (te := tLst tNil) rfl nd rfl rfl (sw_true rfl rfl rfl (by decide +kernel)) (pi_range1 rfl X.range (pa_cons pe_int pa_nil)) (blkOk_by (N := nTr) (sc := defScope sLTriples) (by decide +kernel)) (fun _ _ _ _ _ => pg_name (i := 6) nd rfl (Or.inl rfl)) (fun _ _ _ _ _ => pts_nil) (fun _ _ _ _ _ => pe_lst pa_nil))
      (pss_cons (ps_set (i := 5) nd rfl (Or.inr rfl) (pe_lst pa_nil))
      (pss_cons (ps_for PassesOwn.never rfl (pi_range1 rfl X.range (pa_cons (pv 3) pa_nil)) (pg_name (i := 6) nd rfl (.inl rfl)) (pss_one (ps_expr (pe_bm PySem.F.plainAttrs_list PySem.F.slot_list_append PySem.F.type_list_append mt_append (pv 5) (pa_cons (pe_lc (own := [("_law_j", 7)]) (g := gName 7) (tt := tYes) (te := tC (.int 0)) rfl nd (pi_range1 rfl X.range (pa_cons pe_int pa_nil)) (blkOk_by (N := nTr) (sc := defScope sLTriples) (by decide +kernel)) (fun _ _ _ _ _ => pg_name (i := 7) nd rfl (Or.inl rfl)) (fun _ _ _ _ _ => pts_nil) (fun _ _ _ _ _ => pe_int)) pa_nil)))))
      (pss_cons (ps_set (i := 8) nd rfl (Or.inl rfl) (pe_lst pa_nil))
      (pss_cons (ps_for PassesOwn.never rfl (pi_range1 rfl X.range (pa_cons (pv 2) pa_nil)) (pg_name (i := 6) nd rfl (.inl rfl)) (pss_cons (ps_set (i := 9) nd rfl (Or.inl rfl) (pe_op op_add (pv 1) (pe_op op_mul pe_int (pv 6))))
      (pss_cons (ps_set (i := 10) nd rfl (Or.inr rfl) (pe_op op_mod (pe_f GA hr (by decide) rfl (pa_cons (pv 0) (pa_cons (pv 9) pa_nil))) (pv 3)))
      (pss_cons (ps_set (i := 11) nd rfl (Or.inr rfl) (pe_op op_mod (pe_f GA hr (by decide) rfl (pa_cons (pv 0) (pa_cons (pe_op op_add (pv 9) pe_int) pa_nil))) (pe_op op_add (pv 3) pe_int)))
      (C8.pss_cut (ps_if (pt_cmpR op_lt (pv 11) (pv 3) (nomark _)) (pss_one (ps_asg (pe_lc (own := [("_law_j", 7)]) (g := gName 7) (tt := tYes) (te := tCB (fun xs H Q => ∃ i j : Int, xs = [.int i, .int j] ∧ Q (.int (if j > i then j else i)) H) (tCons (tOp (rIxL K) (tOp (rIxL K) (tVar 5) (tVar 10)) (tVar 7)) (tCons (tOp (rIxL K) (tOp (rIxL K) (tVar 5) (tVar 11)) (tVar 7)) tNil))) rfl nd (pi_range1 rfl X.range (pa_cons pe_int pa_nil)) (blkOk_by (N := nTr) (sc := defScope sLTriples) (by decide +kernel)) (fun _ _ _ _ _ => pg_name (i := 7) nd rfl (Or.inl rfl)) (fun _ _ _ _ _ => pts_nil) (fun _ _ _ _ _ => (pe_callB (call_max2 rfl) (by rfl) X.max (by decide +kernel) (pa_cons (pe_ix ix_list (pe_ix ix_list (pv 5) (pv 10) (fun _ _ => rfl)) (pv 7) (fun _ _ => rfl)) (pa_cons (pe_ix ix_list (pe_ix ix_list (pv 5) (pv 11) (fun _ _ => rfl)) (pv 7) (fun _ _ => rfl)) pa_nil))))) (pg_sub (pv 5) (pv 10) set_list))) pss_nil)
      (pss_cons (ps_set (i := 12) nd rfl (Or.inl rfl) (pe_f GD hr (by decide) rfl (pa_cons (pv 0) (pa_cons (pe_op op_add (pv 9) pe_int) (pa_cons (pe_f GV hr (by decide) rfl (pa_cons (pv 4) (pa_cons (pe_ix ix_list (pv 5) (pv 10) (fun _ _ => rfl)) pa_nil))) (pa_cons (pv 10) pa_nil))))))
      (pss_cons (ps_expr (pe_bm PySem.F.plainAttrs_list PySem.F.slot_list_append PySem.F.type_list_append mt_append (pe_ix ix_list (pv 4) (pv 10) (fun _ _ => rfl)) (pa_cons (pv 12) pa_nil)))
      (pss_cons (ps_asg (pe_callB call_len_seq (by rfl) X.len PySem.boot_len (pa_cons (pe_ix ix_list (pv 4) (pv 10) (fun _ _ => rfl)) pa_nil)) (pg_sub (pe_ix ix_list (pv 5) (pv 10) (fun _ _ => rfl)) (pv 10) set_list))
      (pss_one (ps_expr (pe_bm PySem.F.plainAttrs_list PySem.F.slot_list_append PySem.F.type_list_append mt_append (pv 8) (pa_cons (pe_tup (pa_cons (pv 10) (pa_cons (pe_callB call_len_seq (by rfl) X.len PySem.boot_len (pa_cons (pe_ix ix_list (pv 4) (pv 10) (fun _ _ => rfl)) pa_nil)) (pa_cons (pv 12) pa_nil)))) pa_nil))))))))))))
      (pss_one (ps_ret (pv 8)))))))), ?_⟩
    refine new_rowsS (k := 6) rfl (fun _ => rfl) fun H1 a bs s1 h1 => ?_
    refine ⟨Nat.zero_le _, fun cl hcl => ?_⟩
    have c1 := Same.new (o := .lst []) hcl
    have nots : ∀ {H4 : Hp} {bs : List Addr} {rows : List (List Deed)} {G : Hp} {x : Addr}, S1 G H4 a bs rows → H4 x = none → x ∉ a :: bs := fun h hx hm => by
      rcases List.mem_cons.mp hm with z | z
      · have := h.ha
        rw [← z, hx] at this
        cases this
      · exact h.sm _ z hx
    have nots2 : ∀ {H4 : Hp} {cbs : List Addr} {cs : List (List Nat)} {G : Hp} {x : Addr}, S2 G H4 cl cbs cs → H4 x = none → x ∉ cl :: cbs := fun h hx hm => by
      rcases List.mem_cons.mp hm with z | z
      · have := h.hc
        rw [← z, hx] at this
        cases this
      · exact h.sm _ z hx
    refine ⟨_, rfl, _, rfl, by omega, by omega, ?_⟩
    rw [Int.toNat_natCast]
    refine for_range (lo := 0) (n := mo) (fun i σ H2 => ∃ (w6 : Option V) (cbs : List Addr) (cs : List (List Nat)), σ = [some (.ref q), some (.int st), some (.int (sn : Nat)), some (.int (mo : Nat)), some (.ref a), some (.ref cl), w6, none, none, none, none, none, none] ∧ Same H H2 ∧ S1 H H2 a bs noRows ∧ S2 H H2 cl cbs cs ∧
        cs.length = i ∧ (∀ c ∈ cs, c = List.replicate 8 0) ∧ ∀ x ∈ cl :: cbs, x ∉ a :: bs) ?_ ?_ ?_
    · refine ⟨none, [], [], rfl, s1.trans c1, h1.ex (T := T) (Ex.of c1), ⟨.nil, by simp, s1.free hcl, (fun x hx => nomatch hx), upd_same, .nil⟩, rfl, (fun c hc => nomatch hc), fun x hx => ?_⟩
      rw [List.mem_singleton.mp hx]
      exact nots h1 hcl
    · rintro i σ H2 hi ⟨w6, cbs, cs, rfl, s2, g1, g2, hl, hz, hap⟩
      refine ⟨_, rfl, .inl ⟨rfl, _, SqL.of g2.hc⟩, 8, rfl, by decide, by decide, fun D0 hD => ?_⟩
      refine lc_range (lo := 0) (n := 8) (fun j H3 => Same H2 H3 ∧ H3 D0 = some (.lst (ctV (List.replicate j 0)))) ?_ ?_ ?_
      · exact ⟨Same.new hD, upd_same⟩
      · rintro j H3 hj ⟨s3, hL⟩
        refine ⟨rfl, _, hL, by rw [List.length_map, List.length_replicate]; exact small1000 (by omega), same_put s3 hD, ?_⟩
        rw [upd_same, List.replicate_succ']
        simp [ctV]
      · rintro H3 ⟨s3, hL⟩
        have g1' := g1.ex (T := T) (Ex.of s3)
        have g2' := g2.ex (T := T) (Ex.of s3)
        have hn2 := nots2 g2 hD
        have hlc := Paired.length g2.hcb
        refine ⟨cl, _, _, rfl, rfl, g2'.hc, by rw [List.length_map]; exact small1000 (by omega), ?_⟩
        refine ⟨_, cbs ++ [D0], cs ++ [List.replicate 8 0], rfl, same_put (s2.trans s3) g2.fa, g1'.off (hap _ List.mem_cons_self) (TT.putL g2'.hc), g2'.add hL hn2 (s2.free hD), by rw [List.length_append, List.length_singleton, hl], fun c hc => ?_, fun x hx => ?_⟩
        · rcases List.mem_append.mp hc with z | z
          · exact hz c z
          · exact List.mem_singleton.mp z
        · rcases List.mem_cons.mp hx with z | z
          · rw [z]; exact hap _ List.mem_cons_self
          · rcases List.mem_append.mp z with z | z
            · exact hap _ (List.mem_cons_of_mem _ z)
            · rw [List.mem_singleton.mp z]; exact nots g1 hD
    · rintro σ H2 ⟨w6, cbs, cs, rfl, s2, g1, g2, hl, hz, hap⟩
      refine ⟨Nat.zero_le _, fun tl htl => ?_⟩
      have c3 := Same.new (o := .lst []) htl
      refine ⟨_, rfl, _, rfl, by omega, by omega, ?_⟩
      rw [Int.toNat_natCast]
      refine for_range (lo := 0) (n := sn) (fun i σ H4 => ∃ (w6 w9 w10 w11 w12 : Option V) (cbs : List Addr) (cs : List (List Nat)) (S : List (Nat × Deed)), σ = [some (.ref q), some (.int st), some (.int (sn : Nat)), some (.int (mo : Nat)), some (.ref a), some (.ref cl), w6, none, some (.ref tl), w9, w10, w11, w12] ∧ TrI T H H4 a cl tl bs cbs cs S mo ∧ S.length = i) ?_ ?_ ?_
      · refine ⟨_, none, none, none, none, cbs, cs, [], rfl, ⟨Ex.of (s2.trans c3), (g1.ex (T := T) (Ex.of c3)).nt, (g2.ex (T := T) (Ex.of c3)).nt, hap, nots g1 htl, nots2 g2 htl, noTab_none (s2.free htl), ⟨[], upd_same, .nil⟩, .nil, hl, fun c hc => ?_, fun r c hc => ?_⟩, rfl⟩
        · rw [hz c hc]
          exact ct0 _ rfl
        · rw [hz c (List.mem_of_getElem? hc)]
          show (List.replicate 8 0).getD r 0 = (noRows.getD r []).length
          rw [noRows_get, List.getD_eq_getElem?_getD, List.getElem?_replicate]
          split <;> rfl
      · rintro i σ H4 hi ⟨w6, w9, w10, w11, w12, cbs, cs, S, rfl, I, hSl⟩
        clear g1 g2 hap hz hl
        have ez : (0 : Int) + (i : Nat) = ((i : Nat) : Int) := by omega
        rw [ez]
        refine ⟨_, rfl, _, rfl, _, _, rfl, rfl, .inl (by decide), _, _, rfl, rfl, ?_⟩
        refine ⟨_, rfl, _, rfl, q, _, rfl, hDr.ex I.ex, by omega, fun v1 hv1 => ?_⟩
        refine ⟨_, rfl, _, _, rfl, rfl, by omega, ?_⟩
        refine ⟨_, rfl, _, rfl, _, _, rfl, rfl, q, _, rfl, hDr.ex I.ex, by omega, fun v2 hv2 => ?_⟩
        refine ⟨_, rfl, _, _, rfl, rfl, _, _, rfl, rfl, by omega, ?_⟩
        obtain ⟨r, er⟩ : ∃ r : Nat, v1 % (mo : Int) = (r : Int) := ⟨_, (Int.toNat_of_nonneg (Int.emod_nonneg _ (by omega))).symm⟩
        obtain ⟨o, eo⟩ : ∃ o : Nat, v2 % ((mo : Int) + 1) = (o : Int) := ⟨_, (Int.toNat_of_nonneg (Int.emod_nonneg _ (by omega))).symm⟩
        have hr1 : r < mo := by
          have := Int.emod_lt_of_pos v1 (show (0 : Int) < (mo : Int) by omega)
          omega
        simp only [er, eo]
        clear er eo
        refine ⟨fun σ H5 => ∃ (cbs : List Addr) (cs : List (List Nat)), σ = [some (.ref q), some (.int st), some (.int (sn : Nat)), some (.int (mo : Nat)), some (.ref a), some (.ref cl), some (.int (i : Nat)), none, some (.ref tl), some (.int (st + 16 * (i : Int))), some (.int (r : Nat)), some (.int (o : Nat)), w12] ∧ TrI T H H5 a cl tl bs cbs cs S mo, ?_, ?_⟩
        · refine ⟨_, rfl, _, rfl, _, _, rfl, rfl, _, rfl, ?_⟩
          refine ite2 (fun h0 => ?_) (fun h0 => ⟨cbs, cs, rfl, I⟩)
          have h0 : (o : Int) < (mo : Int) := of_decide_eq_true h0
          have ho : o < mo := by omega
          have hcr : r < cs.length := by rw [I.cn]; exact hr1
          have hco : o < cs.length := by rw [I.cn]; exact ho
          have hlc := Paired.length I.s2.hcb
          obtain ⟨br, gbr, hbr⟩ := p_get' I.s2.hcb (List.getElem?_eq_getElem hcr)
          obtain ⟨bo, gbo, hbo⟩ := p_get' I.s2.hcb (List.getElem?_eq_getElem hco)
          have okr := I.ok _ (List.getElem_mem hcr)
          have oko := I.ok _ (List.getElem_mem hco)
          have ownr := I.own r _ (List.getElem?_eq_getElem hcr)
          generalize cs[r] = c1 at hbr okr ownr
          generalize cs[o] = c2 at hbo oko
          have gar : (cbs.map V.ref)[r]? = some (V.ref br) := by rw [List.getElem?_map, gbr]; rfl
          have gao : (cbs.map V.ref)[o]? = some (V.ref bo) := by rw [List.getElem?_map, gbo]; rfl
          refine ⟨8, rfl, by decide, by decide, fun D0 hD => ?_⟩
          refine lc_range (lo := 0) (n := 8) (fun j H3 => Same H4 H3 ∧ H3 D0 = some (.lst (ctV ((cmax c1 c2).take j)))) ?_ ?_ ?_
          · exact ⟨Same.new hD, upd_same⟩
          · rintro j H3 hj ⟨s3, hL⟩
            have ej : (0 : Int) + (j : Nat) = ((j : Nat) : Int) := by omega
            rw [ej]
            refine ⟨rfl, _, rfl, _, rfl, cl, _, _, _, rfl, rfl, SqL.of (s3 _ _ I.s2.hc), atI_nat gar, _, rfl, br, _, _, _, rfl, rfl, SqL.of (s3 _ _ hbr), atI_nat (ctV_get (by rw [okr.len]; exact hj)), ?_⟩
            refine ⟨_, rfl, _, rfl, cl, _, _, _, rfl, rfl, SqL.of (s3 _ _ I.s2.hc), atI_nat gao, _, rfl, bo, _, _, _, rfl, rfl, SqL.of (s3 _ _ hbo), atI_nat (ctV_get (by rw [oko.len]; exact hj)), ?_⟩
            refine ⟨_, _, rfl, ?_⟩
            have hcl : (cmax c1 c2).length = 8 := by unfold cmax; rw [List.length_map, List.length_range]
            refine ⟨_, hL, ?_, same_put s3 hD, ?_⟩
            · rw [List.length_map, List.length_take, hcl]
              exact small1000 (by omega)
            · have gm : (cmax c1 c2)[j]? = some (max (c1.getD j 0) (c2.getD j 0)) := by
                unfold cmax
                rw [List.getElem?_map, List.getElem?_range hj]
                rfl
              rw [upd_same, take_snoc gm]
              unfold ctV
              rw [List.map_append]
              congr 3
              show [V.int _] = [V.int _]
              congr 2
              rw [Nat.max_def]
              split <;> split <;> omega
          · rintro H3 ⟨s3, hL⟩
            have hcl : (cmax c1 c2).length = 8 := by unfold cmax; rw [List.length_map, List.length_range]
            rw [List.take_of_length_le (by rw [hcl]; exact Nat.le_refl _)] at hL
            have g1 := I.s1.ex (T := T) (Ex.of s3)
            have g2 := I.s2.ex (T := T) (Ex.of s3)
            have e3 := I.ex.trans (Ex.of s3)
            have hn2 := nots2 I.s2 hD
            have hn1 := nots I.s1 hD
            have hD0 := exFree I.ex hD
            refine ⟨_, rfl, _, rfl, cl, _, _, r, rfl, rfl, g2.hc, ixN_nat (by rw [List.length_map]; omega), ?_⟩
            rw [show (cbs.map V.ref).set r (V.ref D0) = (cbs.set r D0).map V.ref from (List.map_set ..).symm]
            have hap := I.ap cl List.mem_cons_self
            have sub : ∀ x ∈ cl :: cbs.set r D0, x = D0 ∨ x ∈ cl :: cbs := fun x hx => by
              rcases List.mem_cons.mp hx with z | z
              · exact .inr (by rw [z]; exact List.mem_cons_self)
              · rcases List.mem_or_eq_of_mem_set z with z | z
                · exact .inr (List.mem_cons_of_mem _ z)
                · exact .inl z
            have eR := rowsOf_len S
            have hcl2 : tl ≠ cl := fun z => I.t2 (by rw [z]; exact List.mem_cons_self)
            have htD : tl ≠ D0 := fun z => by
              obtain ⟨us, q1, _⟩ := I.tr
              rw [z, hD] at q1
              cases q1
            refine ⟨cbs.set r D0, cs.set r (cmax c1 c2), rfl, exPut e3 g2.fa g2.hc, g1.off hap (TT.putL g2.hc), g2.set hL hn2 hD0, fun x hx => ?_, I.t1, fun z => ?_, I.t0, ?_, I.gd, by rw [List.length_set]; exact I.cn, fun c hc => ?_, fun r' c hc => ?_⟩
            · rcases sub x hx with z | z
              · rw [z]; exact hn1
              · exact I.ap x z
            · rcases sub tl z with z | z
              · exact htD z
              · exact I.t2 z
            · obtain ⟨us, q1, q2⟩ := I.tr.same s3
              exact ⟨us, by rw [upd_ne hcl2]; exact q1, p_mono q2 fun _ _ z => z.tt (TT.putL g2.hc)⟩
            · rcases List.mem_or_eq_of_mem_set hc with z | z
              · exact I.ok c z
              · rw [z]; exact okr.max eR oko
            · rw [List.getElem?_set] at hc
              split at hc
              · next z =>
                subst z
                cases hc
                rw [cmax_get okr.len oko.len, ownr]
                exact Nat.max_eq_left (oko.le r)
              · exact I.own r' c hc
        · clear I
          rintro σ H5 ⟨cbs, cs, rfl, I⟩
          have hcr : r < cs.length := by rw [I.cn]; exact hr1
          have hlc := Paired.length I.s2.hcb
          obtain ⟨br, gbr, hbr⟩ := p_get' I.s2.hcb (List.getElem?_eq_getElem hcr)
          have okr := I.ok _ (List.getElem_mem hcr)
          have ownr := I.own r _ (List.getElem?_eq_getElem hcr)
          have hmbr := List.mem_of_getElem? gbr
          generalize cs[r] = c1 at hbr okr ownr
          have gar : (cbs.map V.ref)[r]? = some (V.ref br) := by rw [List.getElem?_map, gbr]; rfl
          have eR := rowsOf_len S
          have hr8 : r < 8 := by omega
          refine ⟨_, rfl, _, rfl, _, _, rfl, rfl, _, rfl, _, rfl, _, rfl, cl, _, _, _, rfl, rfl, SqL.of I.s2.hc, atI_nat gar, a, br, rowsOf S, c1, rfl, I.s1.l, eR, hbr, okr.len, fun H6 vq s6 hvq => ?_⟩
          have e6 := I.ex.trans (Ex.of s6)
          refine ⟨_, rfl, q, _, vq, r, visR (rowsOf S) c1, 1 + 9 * (S.length : Int), rfl, hDr.ex e6, by omega, hvq, vis_wf I.gd.wf okr.clo, by omega, by omega, hr8, e6.tab hT, fun H7 dv d e7 hdv hfit hasc => ?_⟩
          have e67 := (Ex.of s6).trans e7
          have e57 := I.ex.trans e67
          have g1 := I.s1.ex e67
          have g2 := I.s2.ex e67
          have gt := I.tr.ex e67
          have hbr7 : CtAt H7 br c1 := e67.at hbr
          have hvr : (visR (rowsOf S) c1).getD r [] = (rowsOf S).getD r [] := by
            rw [visR_get eR, ownr, List.take_of_length_le (Nat.le_refl _)]
          rw [hvr] at hasc
          have hfit2 : Fit (rowsOf S) (1 + 9 * ((S.length : Int) + 1)) d := by
            have z := hfit.mono (visR_sub eR c1) (Int.le_refl _)
            have e : 1 + 9 * (S.length : Int) + 9 = 1 + 9 * ((S.length : Int) + 1) := by omega
            rw [e] at z
            exact z
          obtain ⟨b, vs, gb, ga, hmb, hb, hv⟩ := g1.row (r := r) (by rw [eR]; exact hr8)
          have hvl := Paired.length hv
          have hvl2 := row_len S r
          -- rows[r].append(deed)
          refine ⟨_, rfl, _, rfl, a, _, _, _, rfl, rfl, SqL.of g1.ha, atI_nat ga, .inl ⟨rfl, _, SqL.of hb⟩, _, rfl, b, vs, _, rfl, rfl, hb, small1000 (by omega), ?_⟩
          have t8 : TT H7 (upd H7 b (.lst (vs ++ [dv]))) := TT.putL hb
          have k1 := g1.add gb hb hv hdv
          have hb2 : b ∉ cl :: cbs := fun z => I.ap b z (List.mem_cons_of_mem _ hmb)
          have k2 := g2.off (o := .lst (vs ++ [dv])) hb2
          have e8 := exPut (o' := .lst (vs ++ [dv])) e57 (g1.fr b hmb) hb
          have hdv8 := hdv.tt t8
          have gt8 : TripAt (upd H7 b (.lst (vs ++ [dv]))) tl S := by
            obtain ⟨us, q1, q2⟩ := gt
            exact ⟨us, by rw [upd_ne (fun z => I.t1 (by rw [z]; exact List.mem_cons_of_mem _ hmb))]; exact q1, p_mono q2 fun _ _ z => z.tt t8⟩
          have hbr8 : CtAt (upd H7 b (.lst (vs ++ [dv]))) br c1 := by
            show upd H7 b _ br = _
            rw [upd_ne (fun z => hb2 (by rw [← z]; exact List.mem_cons_of_mem _ hmbr))]
            exact hbr7
          have hb8 : upd H7 b (.lst (vs ++ [dv])) b = some (.lst (vs ++ [dv])) := upd_same
          generalize upd H7 b (.lst (vs ++ [dv])) = H8 at k1 k2 e8 hdv8 gt8 hbr8 hb8
          -- counts[r][r] = len(rows[r])
          have ga8 := k1.ha
          have gb8 : (bs.map V.ref)[r]? = some (V.ref b) := ga
          refine ⟨_, rfl, _, rfl, a, _, _, _, rfl, rfl, SqL.of ga8, atI_nat gb8, b, _, rfl, .inl (SqL.of hb8), ?_⟩
          refine ⟨_, rfl, _, rfl, cl, _, _, _, rfl, rfl, SqL.of k2.hc, atI_nat gar, _, rfl, br, _, _, r, rfl, rfl, hbr8, ixN_nat (by rw [List.length_map, okr.len]; exact hr8), ?_⟩
          have el : ((vs ++ [dv]).length : Int) = ((((rowsOf S).getD r []).length + 1 : Nat) : Int) := by rw [List.length_append, List.length_singleton, hvl]
          have ec : (c1.map fun n : Nat => V.int (n : Int)).set r (V.int ((vs ++ [dv]).length : Int)) = ctV (c1.set r (((rowsOf S).getD r []).length + 1)) := by
            rw [el]
            exact (List.map_set ..).symm
          rw [ec]
          have hbr1 : br ∉ a :: bs := I.ap br (List.mem_cons_of_mem _ hmbr)
          have t9 : TT H8 (upd H8 br (.lst (ctV (c1.set r (((rowsOf S).getD r []).length + 1))))) := TT.putL hbr8
          have m1 := k1.off (o := .lst (ctV (c1.set r (((rowsOf S).getD r []).length + 1)))) hbr1 t9
          have m2 := k2.put (c := c1.set r (((rowsOf S).getD r []).length + 1)) gbr
          have e9 := exPut (o' := .lst (ctV (c1.set r (((rowsOf S).getD r []).length + 1)))) e8 (g2.fr br hmbr) hbr8
          have hdv9 := hdv8.tt t9
          have gt9 : TripAt (upd H8 br (.lst (ctV (c1.set r (((rowsOf S).getD r []).length + 1))))) tl S := by
            obtain ⟨us, q1, q2⟩ := gt8
            exact ⟨us, by rw [upd_ne (fun z => I.t2 (by rw [z]; exact List.mem_cons_of_mem _ hmbr))]; exact q1, p_mono q2 fun _ _ z => z.tt t9⟩
          have hb9 : upd H8 br (.lst (ctV (c1.set r (((rowsOf S).getD r []).length + 1)))) b = some (.lst (vs ++ [dv])) := by
            rw [upd_ne (fun z => hbr1 (by rw [← z]; exact List.mem_cons_of_mem _ hmb))]
            exact hb8
          generalize upd H8 br (.lst (ctV (c1.set r (((rowsOf S).getD r []).length + 1)))) = H9 at m1 m2 e9 hdv9 gt9 hb9
          -- triples.append(..)
          obtain ⟨us, q1, q2⟩ := gt9
          have hul := Paired.length q2
          refine ⟨_, rfl, .inl ⟨rfl, _, SqL.of q1⟩, _, rfl, _, rfl, _, rfl, a, _, _, _, rfl, rfl, SqL.of m1.ha, atI_nat gb8, b, _, rfl, .inl (SqL.of hb9), _, rfl, by show 3 ≤ sizeLine; decide, fun t ht => ?_⟩
          have s10 := Same.new (o := .tup [.int (r : Nat), .int ((vs ++ [dv]).length : Int), dv]) ht
          have q1' := s10 _ _ q1
          have t11 : TT _ (upd _ tl (.lst (us ++ [V.ref t]))) := TT.putL q1'
          refine ⟨tl, us, _, rfl, rfl, q1', small1000 (by omega), ?_⟩
          have hnew : rowsOf (S ++ [(r, d)]) = addR (rowsOf S) r d := rowsOf_snoc S (r, d)
          refine ⟨_, _, _, _, _, cbs, cs.set r (c1.set r (((rowsOf S).getD r []).length + 1)), S ++ [(r, d)], rfl, ⟨exPut (e9.trans (Ex.of s10)) I.t0 q1', ?_, ?_, I.ap, I.t1, I.t2, I.t0, ?_, .snoc I.gd hr8 (by omega) hasc hfit2, by rw [List.length_set]; exact I.cn, fun c hc => ?_, fun r' c hc => ?_⟩, by rw [List.length_append, List.length_singleton, hSl]⟩
          · rw [hnew]
            exact (m1.ex (T := T) (Ex.of s10)).off I.t1 t11
          · exact (m2.ex (T := T) (Ex.of s10)).off I.t2
          · refine ⟨us ++ [V.ref t], upd_same, Paired.snoc (p_mono q2 fun _ _ z => (z.tt (TT.of s10)).tt t11) ⟨t, _, dv, rfl, t11 _ _ upd_same, (hdv9.tt (TT.of s10)).tt t11⟩⟩
          · rw [hnew]
            rcases List.mem_or_eq_of_mem_set hc with z | z
            · exact (I.ok c z).old eR hr8 d
            · rw [z]; exact okr.new eR hr8 ownr hfit
          · rw [hnew, addR_get (by rw [eR]; exact hr8)]
            rw [List.getElem?_set] at hc
            split at hc
            · next z =>
              subst z
              cases hc
              rw [if_pos rfl, List.length_append, List.getD_eq_getElem?_getD, List.getElem?_set, if_pos rfl, if_pos (by rw [okr.len]; exact hr8)]
              rfl
            · next z =>
              rw [if_neg (fun e => z e.symm)]
              exact I.own r' c hc
      · rintro σ H4 ⟨w6, w9, w10, w11, w12, cbs, cs, S, rfl, I, hSl⟩
        exact ⟨_, rfl, k H4 tl S I.ex I.tr I.gd⟩
end
end Q3

set_option Elab.async false
set_option linter.all false
set_option maxRecDepth 100000
set_option maxHeartbeats 8000000
/-! the law's sameness -/
namespace Q3
open PySem PySem.Spec PyProof.Rows L2 LamX
def spIsInt : Sp := fun vs H Q _ => ∃ i : Int, vs = [.int i] ∧ ∀ H', Same H H' → Q (.bl true) H'
def spSm (R : Hp → V → V → Prop) : Sp := fun vs H Q _ => ∃ x y, vs = [x, y] ∧ R H x y ∧ ∀ H', Same H H' → Q (.bl true) H'
def Rleaf (x y : V) : Prop := (∃ i, x = .int i ∧ y = .int i) ∨ (∃ s, x = .str s ∧ y = .str s) ∨ (∃ b, x = .bl b ∧ y = .bl b)
def Rseq (R : Hp → V → V → Prop) (H : Hp) (x y : V) : Prop := ∃ (a b : Addr) (xs ys : List V), x = .ref a ∧ y = .ref b ∧ ((H a = some (.lst xs) ∧ H b = some (.lst ys)) ∨ (H a = some (.tup xs) ∧ H b = some (.tup ys))) ∧ Paired (R H) xs ys ∧ xs.length ≤ 10000
def Rn : Nat → Hp → V → V → Prop
  | 0, _, x, y => Rleaf x y
  | n + 1, H, x, y => Rleaf x y ∨ Rseq (Rn n) H x y
theorem Rn.same {H H' : Hp} (s : Same H H') : ∀ (n : Nat) {x y : V}, Rn n H x y → Rn n H' x y
  | 0, _, _, h => h
  | n + 1, x, y, h => by
    rcases h with h | ⟨a, b, xs, ys, e1, e2, h1, h2, h3⟩
    · exact .inl h
    · refine .inr ⟨a, b, xs, ys, e1, e2, ?_, p_mono h2 fun _ _ q => Rn.same s n q, h3⟩
      rcases h1 with ⟨q1, q2⟩ | ⟨q1, q2⟩
      · exact .inl ⟨s _ _ q1, s _ _ q2⟩
      · exact .inr ⟨s _ _ q1, s _ _ q2⟩
section
variable {P : Program} {w : World} {K : PySem.W.Frag} {mg : Str → Option Value} {base : Heap}
theorem scII : FnScope ["_law_actual"] ["_law_actual"] (defScope sIsInt) := ⟨rfl, rfl, rfl, by decide +kernel, rfl, by decide +kernel, by decide +kernel⟩
theorem cal_isint {f : Addr} {fd : FuncData} (F : Fun K "_law_is_integer" "_law_is_integer" sIsInt f fd) (hm : mg "_law_is_integer" = some (.ref f)) (X : Txt K mg) : Cal P w K mg base 1 "_law_is_integer" spIsInt := by
  refine ⟨f, fd, ["_law_actual"], F.ok scII (fun vs H Q E h => ?_) (fun cdv A outer s H vs Q E hr h => ?_), hm, F.kp, F.binds fun _ _ _ _ _ _ us hl => match us, hl with | [_], _ => rfl⟩
  · obtain ⟨i, rfl, _⟩ := h
    rfl
  · obtain ⟨i, rfl, k⟩ := h
    refine ⟨_, (pss_one (ps_ret (pe_and (pe_callB call_isi (by rfl) X.isinstance (by decide +kernel) (pa_cons (pv 0) (pa_cons (pe_bltn (v := .ty "int") rfl X.int (by decide +kernel) rfl) pa_nil))) (pe_one (pe_not (pe_callB call_isi (by rfl) X.isinstance (by decide +kernel) (pa_cons (pv 0) (pa_cons (pe_bltn (v := .ty "bool") rfl X.bool (by decide +kernel) rfl) pa_nil)))))))), ?_⟩
    refine ⟨_, rfl, .int i, .ty "int", _, _, _, rfl, .ty _, .base (.int i), kit_ty (by decide +kernel), true, rfl, iteT ?_⟩
    exact ⟨_, rfl, .int i, .ty "bool", _, _, _, rfl, .ty _, .base (.int i), kit_ty (by decide +kernel), false, rfl, k H (Same.refl H)⟩
abbrev nSm : List Str := ["_law_actual", "_law_expected", "_law_k"]
theorem scSm : FnScope nSm ["_law_actual", "_law_expected"] (defScope sSame) := ⟨rfl, rfl, rfl, by decide +kernel, rfl, by decide +kernel, by decide +kernel⟩
theorem same_step {f : Addr} {fd : FuncData} {n : Nat} {sp : Sp} {R R' : Hp → V → V → Prop} (F : Fun K "_law_same" "_law_same" sSame f fd) (hm : mg "_law_same" = some (.ref f)) (X : Txt K mg) (GN : Cal P w K mg base 1 "_law_is_integer" spIsInt) (G : Cal P w K mg base (n + 1) "_law_same" sp)
    (hR : ∀ {H H' : Hp} {x y : V}, Same H H' → R H x y → R H' x y) (hsp : ∀ x y H Q E, R H x y → (∀ H', Same H H' → Q (.bl true) H') → sp [x, y] H Q E) (hR' : ∀ H x y, R' H x y → Rleaf x y ∨ Rseq R H x y) : Cal P w K mg base (n + 2) "_law_same" (spSm R') := by
  refine ⟨f, fd, ["_law_actual", "_law_expected"], F.ok scSm (fun vs H Q E h => ?_) (fun cdv A outer s H vs Q E hr h => ?_), hm, F.kp, F.binds fun _ _ _ _ _ _ us hl => match us, hl with | [_, _], _ => rfl⟩
  · obtain ⟨x, y, rfl, _⟩ := h
    rfl
  · obtain ⟨x, y, rfl, h, k⟩ := h
    have nd := scSm.nd
    have hr1 : Room (n + 1) (A.deeper (envOfC "_law_same" (defScope sSame) s.heap.objs.size f cdv)) := hr
    refine ⟨_, (pss_cons (ps_if (pt_val (pe_callB call_isiT (by rfl) X.isinstance (by decide +kernel) (pa_cons (pv 1) (pa_cons (pe_tup (pa_cons (pe_bltn (v := .ty "list") rfl X.list (by decide +kernel) rfl) (pa_cons (pe_bltn (v := .ty "tuple") rfl X.tuple (by decide +kernel) rfl) pa_nil))) pa_nil)))) (pss_cons (ps_if (PW.pt (pw_or (pt_cmpR op_ne (pe_callB call_isi (by rfl) X.isinstance (by decide +kernel) (pa_cons (pv 1) (pa_cons (pe_bltn (v := .ty "list") rfl X.list (by decide +kernel) rfl) pa_nil))) (pe_callB call_isi (by rfl) X.isinstance (by decide +kernel) (pa_cons (pv 0) (pa_cons (pe_bltn (v := .ty "list") rfl X.list (by decide +kernel) rfl) pa_nil))) (nomark _)) (pw_or1 (pt_cmpR op_ne (pe_callB call_isi (by rfl) X.isinstance (by decide +kernel) (pa_cons (pv 1) (pa_cons (pe_bltn (v := .ty "tuple") rfl X.tuple (by decide +kernel) rfl) pa_nil))) (pe_callB call_isi (by rfl) X.isinstance (by decide +kernel) (pa_cons (pv 0) (pa_cons (pe_bltn (v := .ty "tuple") rfl X.tuple (by decide +kernel) rfl) pa_nil))) (nomark _))))) (pss_one (ps_ret pe_bl)) pss_nil)
      (pss_cons (ps_if (pt_cmpR op_ne (pe_callB call_len_seq (by rfl) X.len PySem.boot_len (pa_cons (pv 0) pa_nil)) (pe_callB call_len_seq (by rfl) X.len PySem.boot_len (pa_cons (pv 1) pa_nil)) (nomark _)) (pss_one (ps_ret pe_bl)) pss_nil)
      (pss_cons (ps_for PassesOwn.never rfl (pi_range1 rfl X.range (pa_cons (pe_callB call_len_seq (by rfl) X.len PySem.boot_len (pa_cons (pv 1) pa_nil)) pa_nil)) (pg_name (i := 2) nd rfl (.inl rfl)) (pss_one (ps_if (pt_not (pt_val (pe_f G hr1 (Nat.le_refl _) rfl (pa_cons (pe_ix ix_seq (pv 0) (pv 2) (fun _ _ => rfl)) (pa_cons (pe_ix ix_seq (pv 1) (pv 2) (fun _ _ => rfl)) pa_nil))))) (pss_one (ps_ret pe_bl)) pss_nil)))
      (pss_one (ps_ret pe_bl))))) pss_nil)
      (pss_cons (ps_if (pt_cmpR op_isN (pv 1) pe_non (nomark _)) (pss_one (ps_ret (pe_cmpR op_isN (pv 0) pe_non (nomark _)))) pss_nil)
      (pss_cons (ps_if (pt_val (pe_callB call_isi (by rfl) X.isinstance (by decide +kernel) (pa_cons (pv 1) (pa_cons (pe_bltn (v := .ty "bool") rfl X.bool (by decide +kernel) rfl) pa_nil)))) (pss_one (ps_ret (pe_and (pe_callB call_isi (by rfl) X.isinstance (by decide +kernel) (pa_cons (pv 0) (pa_cons (pe_bltn (v := .ty "bool") rfl X.bool (by decide +kernel) rfl) pa_nil))) (pe_one (pe_cmpR op_eq (pv 0) (pv 1) (nomark _)))))) pss_nil)
      (pss_cons (ps_if (pt_val (pe_callB call_isi (by rfl) X.isinstance (by decide +kernel) (pa_cons (pv 1) (pa_cons (pe_bltn (v := .ty "int") rfl X.int (by decide +kernel) rfl) pa_nil)))) (pss_one (ps_ret (pe_and (pe_f GN hr1 (by omega) rfl (pa_cons (pv 0) pa_nil)) (pe_one (pe_cmpR op_eq (pv 0) (pv 1) (nomark _)))))) pss_nil)
      (pss_one (ps_ret (pe_and (pe_callB call_isi (by rfl) X.isinstance (by decide +kernel) (pa_cons (pv 0) (pa_cons (pe_bltn (v := .ty "str") rfl X.str (by decide +kernel) rfl) pa_nil))) (pe_one (pe_cmpR op_eq (pv 0) (pv 1) (nomark _)))))))))), ?_⟩
    have lt2 : (([V.ty "list", V.ty "tuple"] : List V)).length ≤ sizeLine := by show 2 ≤ sizeLine; decide
    have kAny : ∀ {t : Value} {b1 b2 : Bool}, PySem.W.kitOne K t (.type "list") = some b1 → PySem.W.kitOne K t (.type "tuple") = some b2 → PySem.W.kitAny K t [.type "list", .type "tuple"] = some (b1 || b2) := fun {t b1 b2} h1 h2 =>
      kitAny_cons h1 (fun z => by subst z; exact kitAny_cons h2 (fun z => by subst z; exact kitAny_nil) fun z => by subst z; rfl) fun z => by subst z; rfl
    refine ⟨_, rfl, lt2, fun tp htp => ?_⟩
    have s1 := Same.new (o := .tup [.ty "list", .ty "tuple"]) htp
    rcases hR' _ _ _ h with hL | ⟨a, b, xs, ys, rfl, rfl, hab, hP, hl8⟩
    · rcases hL with ⟨i, rfl, rfl⟩ | ⟨z, rfl, rfl⟩ | ⟨c, rfl, rfl⟩
      · refine ⟨_, tp, _, _, _, _, rfl, upd_same, .cons (.ty _) (.cons (.ty _) .nil), .base (.int i), kAny (b1 := false) (b2 := false) (kit_ty (by decide +kernel)) (kit_ty (by decide +kernel)), _, rfl, iteF ?_⟩
        refine ⟨_, rfl, rfl, _, rfl, iteF ?_⟩
        refine ⟨_, rfl, .int i, .ty "bool", _, _, _, rfl, .ty _, .base (.int i), kit_ty (by decide +kernel), _, rfl, iteF ?_⟩
        refine ⟨_, rfl, .int i, .ty "int", _, _, _, rfl, .ty _, .base (.int i), kit_ty (by decide +kernel), _, rfl, iteT ?_⟩
        refine ⟨_, rfl, i, rfl, fun H2 s2 => ⟨true, rfl, iteT ?_⟩⟩
        refine ⟨_, rfl, _, rfl, rfl, ?_⟩
        rw [decide_eq_true rfl]
        exact k _ (s1.trans s2)
      · refine ⟨_, tp, _, _, _, _, rfl, upd_same, .cons (.ty _) (.cons (.ty _) .nil), .base (.str z), kAny (b1 := false) (b2 := false) (kit_ty (by decide +kernel)) (kit_ty (by decide +kernel)), _, rfl, iteF ?_⟩
        refine ⟨_, rfl, rfl, _, rfl, iteF ?_⟩
        refine ⟨_, rfl, .str z, .ty "bool", _, _, _, rfl, .ty _, .base (.str z), kit_ty (by decide +kernel), _, rfl, iteF ?_⟩
        refine ⟨_, rfl, .str z, .ty "int", _, _, _, rfl, .ty _, .base (.str z), kit_ty (by decide +kernel), _, rfl, iteF ?_⟩
        refine ⟨_, rfl, .str z, .ty "str", _, _, _, rfl, .ty _, .base (.str z), kit_ty (by decide +kernel), _, rfl, iteT ?_⟩
        refine ⟨_, rfl, _, rfl, rfl, ?_⟩
        rw [decide_eq_true rfl]
        exact k _ s1
      · refine ⟨_, tp, _, _, _, _, rfl, upd_same, .cons (.ty _) (.cons (.ty _) .nil), .base (.bl c), kAny (b1 := false) (b2 := false) (kit_ty (by decide +kernel)) (kit_ty (by decide +kernel)), _, rfl, iteF ?_⟩
        refine ⟨_, rfl, rfl, _, rfl, iteF ?_⟩
        refine ⟨_, rfl, .bl c, .ty "bool", _, _, _, rfl, .ty _, .base (.bl c), kit_ty (by decide +kernel), _, rfl, iteT ?_⟩
        refine ⟨_, rfl, .bl c, .ty "bool", _, _, _, rfl, .ty _, .base (.bl c), kit_ty (by decide +kernel), _, rfl, iteT ?_⟩
        refine ⟨_, rfl, _, rfl, rfl, ?_⟩
        rw [decide_eq_true rfl]
        exact k _ s1
    · have hl := Paired.length hP
      have el : (!decide (V.int (xs.length : Int) = V.int (ys.length : Int))) = false := by rw [hl]; simp
      have hl7 : ys.length ≤ 10000 := by omega
      rcases hab with ⟨ha, hb⟩ | ⟨ha, hb⟩
      · have ha1 := s1 _ _ ha
        have hb1 := s1 _ _ hb
        refine ⟨_, tp, _, _, _, _, rfl, upd_same, .cons (.ty _) (.cons (.ty _) .nil), .base (.lst hb1), kAny (b1 := true) (b2 := false) (kit_ty (by decide +kernel)) (kit_ty (by decide +kernel)), _, rfl, iteT ?_⟩
        refine ⟨_, rfl, .ref b, .ty "list", _, _, true, rfl, .ty _, .base (.lst hb1), kit_ty (by decide +kernel), _, rfl, .ref a, .ty "list", _, _, true, rfl, .ty _, .base (.lst ha1), kit_ty (by decide +kernel), rfl, _, rfl, iteF ?_⟩
        refine ⟨_, rfl, .ref b, .ty "tuple", _, _, false, rfl, .ty _, .base (.lst hb1), kit_ty (by decide +kernel), _, rfl, .ref a, .ty "tuple", _, _, false, rfl, .ty _, .base (.lst ha1), kit_ty (by decide +kernel), rfl, _, rfl, iteF ?_⟩
        refine ⟨_, rfl, a, xs, rfl, .inl (SqL.of ha1), _, rfl, b, ys, rfl, .inl (SqL.of hb1), rfl, _, rfl, ite2 (fun z => nomatch (el.symm.trans z)) fun _ => ?_⟩
        refine ⟨_, rfl, b, ys, rfl, .inl (SqL.of hb1), _, rfl, by omega, by omega, ?_⟩
        rw [Int.toNat_natCast]
        refine for_range (lo := 0) (n := ys.length) (fun i σ H2 => ∃ (w : Option V), σ = [some (.ref a), some (.ref b), w] ∧ Same H H2) ?_ ?_ ?_
        · exact ⟨none, rfl, s1⟩
        · rintro i σ H2 hi ⟨w, rfl, s2⟩
          have ez : (0 : Int) + (i : Nat) = ((i : Nat) : Int) := by omega
          rw [ez]
          have gy := List.getElem?_eq_getElem hi
          obtain ⟨xv, gx, hxy⟩ := p_get' hP gy
          refine ⟨_, rfl, _, rfl, .inl ⟨a, xs, _, xv, rfl, rfl, SqL.of (s2 _ _ ha), atI_nat gx, ?_⟩⟩
          refine ⟨_, rfl, _, rfl, .inl ⟨b, ys, _, _, rfl, rfl, SqL.of (s2 _ _ hb), atI_nat gy, ?_⟩⟩
          refine hsp _ _ _ _ _ (hR s2 hxy) fun H3 s3 => ⟨true, rfl, iteF ⟨_, rfl, s2.trans s3⟩⟩
        · rintro σ H2 ⟨w, rfl, s2⟩
          exact k H2 s2
      · have ha1 := s1 _ _ ha
        have hb1 := s1 _ _ hb
        refine ⟨_, tp, _, _, _, _, rfl, upd_same, .cons (.ty _) (.cons (.ty _) .nil), .base (.tup hb1), kAny (b1 := false) (b2 := true) (kit_ty (by decide +kernel)) (kit_ty (by decide +kernel)), _, rfl, iteT ?_⟩
        refine ⟨_, rfl, .ref b, .ty "list", _, _, false, rfl, .ty _, .base (.tup hb1), kit_ty (by decide +kernel), _, rfl, .ref a, .ty "list", _, _, false, rfl, .ty _, .base (.tup ha1), kit_ty (by decide +kernel), rfl, _, rfl, iteF ?_⟩
        refine ⟨_, rfl, .ref b, .ty "tuple", _, _, true, rfl, .ty _, .base (.tup hb1), kit_ty (by decide +kernel), _, rfl, .ref a, .ty "tuple", _, _, true, rfl, .ty _, .base (.tup ha1), kit_ty (by decide +kernel), rfl, _, rfl, iteF ?_⟩
        refine ⟨_, rfl, a, xs, rfl, .inr (SqT.of ha1), _, rfl, b, ys, rfl, .inr (SqT.of hb1), rfl, _, rfl, ite2 (fun z => nomatch (el.symm.trans z)) fun _ => ?_⟩
        refine ⟨_, rfl, b, ys, rfl, .inr (SqT.of hb1), _, rfl, by omega, by omega, ?_⟩
        rw [Int.toNat_natCast]
        refine for_range (lo := 0) (n := ys.length) (fun i σ H2 => ∃ (w : Option V), σ = [some (.ref a), some (.ref b), w] ∧ Same H H2) ?_ ?_ ?_
        · exact ⟨none, rfl, s1⟩
        · rintro i σ H2 hi ⟨w, rfl, s2⟩
          have ez : (0 : Int) + (i : Nat) = ((i : Nat) : Int) := by omega
          rw [ez]
          have gy := List.getElem?_eq_getElem hi
          obtain ⟨xv, gx, hxy⟩ := p_get' hP gy
          refine ⟨_, rfl, _, rfl, .inr (.inl ⟨a, xs, _, xv, rfl, rfl, SqT.of (s2 _ _ ha), atI_nat gx, ?_⟩)⟩
          refine ⟨_, rfl, _, rfl, .inr (.inl ⟨b, ys, _, _, rfl, rfl, SqT.of (s2 _ _ hb), atI_nat gy, ?_⟩)⟩
          refine hsp _ _ _ _ _ (hR s2 hxy) fun H3 s3 => ⟨true, rfl, iteF ⟨_, rfl, s2.trans s3⟩⟩
        · rintro σ H2 ⟨w, rfl, s2⟩
          exact k H2 s2
theorem cal_same {f : Addr} {fd : FuncData} (F : Fun K "_law_same" "_law_same" sSame f fd) (hm : mg "_law_same" = some (.ref f)) (X : Txt K mg) (GN : Cal P w K mg base 1 "_law_is_integer" spIsInt) : ∀ n, Cal P w K mg base (n + 2) "_law_same" (spSm (Rn n))
  | 0 => by
    have G0 : Cal P w K mg base 1 "_law_same" (fun _ _ _ _ => False) := by
      refine ⟨f, fd, ["_law_actual", "_law_expected"], F.ok scSm (fun vs H Q E h => h.elim) (fun cdv A outer s H vs Q E hr h => h.elim), hm, F.kp, F.binds fun _ _ _ _ _ _ us hl => match us, hl with | [_, _], _ => rfl⟩
    exact same_step (n := 0) (R := fun _ _ _ => False) F hm X GN G0 (fun _ h => h) (fun _ _ _ _ _ h => h.elim) fun H x y h => .inl h
  | n + 1 => same_step (n := n + 1) (R := Rn n) F hm X GN (cal_same F hm X GN n) (fun s h => Rn.same s n h) (fun x y H Q E h k => ⟨x, y, rfl, h, k⟩) fun H x y h => h
end
end Q3

set_option Elab.async false
set_option linter.all false
set_option maxRecDepth 100000
set_option maxHeartbeats 8000000
/-! the law's marks; what stands -/
namespace Q3
open PySem PySem.Spec PyProof.Rows L2 LamX
abbrev mksOf (rows : List (List Deed)) (m : Str) : List Mark := build (srtE (fndL (chOf rows m)))
theorem mksOf_nodup {rows : List (List Deed)} {B : Int} (h : WF rows B) (m : Str) : (mksOf rows m).Nodup := nodup_build (h.goodO m).nodup
theorem mksOf_len {rows : List (List Deed)} {B : Int} (h : WF rows B) (m : Str) : (mksOf rows m).length ≤ 8000 := by
  rw [build_len, List.length_mergeSort]
  have z := fndL_len (l := chOf rows m) fun c hc => (h.wb.ch hc).1
  have z3 : (chOf rows m).length ≤ 8 * 100 := chTo_le (m := m) h.wb.row 8
  omega
def spLMarks (T : List (Addr × Str)) (C : Addr) : Sp := fun vs H Q _ => ∃ (p : Addr) (rows : List (List Deed)) (B : Int) (m : Str), vs = [.ref p, .str m] ∧ DeedsAt C H p rows ∧ WF rows B ∧ Tabs T H ∧
  ∀ (H' : Hp) (q : Addr) (us : List V), Ex T H H' → H' q = some (.lst us) → Paired (IsMk H') us (mksOf rows m) → Q (.ref q) H'
def spLStands : Sp := fun vs H Q _ => ∃ (a q : Addr) (rows : List (List Deed)) (B : Int) (m : Str) (us : List V), vs = [.ref a, .str m, .ref q] ∧ RowsL H a rows ∧ WF rows B ∧ H q = some (.lst us) ∧ Paired (IsMk H) us (mksOf rows m) ∧
  ∀ (H' : Hp), Same H H' → Q (.bl true) H'
theorem cut_mid {α : Type} (A B C : List α) : ((A ++ (B ++ C)).drop A.length).take B.length = B := by
  rw [List.drop_left, List.take_left]
theorem cutV_nat (xs : List V) (i j : Nat) (hi : i ≤ xs.length) (hj : j ≤ xs.length) : cutV xs (some (i : Int)) (some (j : Int)) = (xs.drop i).take (j - i) := by
  unfold cutV
  rw [HT.sIx_nat, HT.sIx_nat, Nat.min_eq_left hi, Nat.min_eq_left hj]
theorem idx_at {A C : List Mark} {x : Mark} (h : (A ++ x :: C).Nodup) : (A ++ x :: C).idxOf x = A.length := by
  have hx : x ∉ A := fun z => by
    rw [List.nodup_append] at h
    exact h.2.2 x z x List.mem_cons_self rfl
  rw [List.idxOf_append, if_neg hx, List.idxOf_cons_self, Nat.zero_add]
theorem lex_mlt (a b : Mark) : HT.lexLt [a.1, a.2] [b.1, b.2] = mlt a b := by
  unfold mlt
  simp only [HT.lexLt]
  by_cases h1 : a.1 < b.1 <;> by_cases h2 : a.1 = b.1 <;> by_cases h3 : a.2 < b.2 <;> simp [h1, h2, h3] <;> omega
def fiOf (M : List Mark) : Option Mark → Nat
  | none => 0
  | some b => M.idxOf b + 1
/-- where a mark stands: the part between -/
theorem stands_at {rows : List (List Deed)} {B : Int} (h : WF rows B) {m : Str} {e : Ent} (he : EI rows m e) :
    e.mark ∈ mksOf rows m ∧ (∀ b, e.beh = some b → b ∈ mksOf rows m) ∧ ∀ fi : Nat, fi = fiOf (mksOf rows m) e.beh → fi ≤ (mksOf rows m).idxOf e.mark ∧ ∀ x ∈ ((mksOf rows m).drop fi).take ((mksOf rows m).idxOf e.mark - fi), mlt x e.mark = false := by
  obtain ⟨e', g1, g2, g3⟩ := ent_fs (chTo_bare rows m 8) he
  have hn := mksOf_nodup h m
  have hst := stands (h.goodO m) (mem_srt.mpr g1)
  rw [g2, g3] at hst
  have hm1 : e.mark ∈ mksOf rows m := (mem_row (chTo_bare rows m 8)).mpr he.mk
  refine ⟨hm1, fun b hb => ?_, fun fi hfi => ?_⟩
  · have z := ((h.goodO m).beh e' (mem_srt.mpr g1) b (by rw [g3]; exact hb)).2
    exact (mem_build _).mpr z
  · cases hb : e.beh with
    | none =>
      rw [hb] at hst hfi
      have hfi : fi = 0 := hfi
      subst hfi
      obtain ⟨Bx, C, e1, e2⟩ := hst.1 rfl
      refine ⟨Nat.zero_le _, fun x hx => ?_⟩
      rw [show mksOf rows m = Bx ++ e.mark :: C from e1] at hx hn
      rw [idx_at hn, List.drop_zero, Nat.sub_zero, List.take_left] at hx
      exact e2 x hx
    | some b =>
      rw [hb] at hst hfi
      obtain ⟨A, Bx, C, e1, e2⟩ := hst.2 b rfl
      have e1 : mksOf rows m = A ++ b :: (Bx ++ e.mark :: C) := e1
      rw [e1] at hn hfi ⊢
      have h1 : (A ++ b :: (Bx ++ e.mark :: C)).idxOf b = A.length := idx_at hn
      have h2 : (A ++ b :: (Bx ++ e.mark :: C)) = (A ++ b :: Bx) ++ e.mark :: C := by simp
      have h3 : (A ++ b :: (Bx ++ e.mark :: C)).idxOf e.mark = A.length + 1 + Bx.length := by
        rw [h2] at hn ⊢
        rw [idx_at hn]
        simp
        omega
      have hfi : fi = (A ++ b :: (Bx ++ e.mark :: C)).idxOf b + 1 := hfi
      rw [h1] at hfi
      subst hfi
      rw [h3]
      refine ⟨by omega, fun x hx => ?_⟩
      have h4 : A ++ b :: (Bx ++ e.mark :: C) = (A ++ [b]) ++ (Bx ++ e.mark :: C) := by simp
      have h5 : A.length + 1 + Bx.length - (A.length + 1) = Bx.length := by omega
      have h6 : (A ++ [b]).length = A.length + 1 := by simp
      rw [h4, h5, ← h6, cut_mid] at hx
      exact e2 x hx
section
variable {P : Program} {w : World} {K : PySem.W.Frag} {mg : Str → Option Value} {base : Heap} {C : Addr}
abbrev nMk : List Str := ["_law_deeds_here", "_law_module", "_law_row_here", "_law_marks_here", "_law_each"]
theorem scMk : FnScope nMk ["_law_deeds_here", "_law_module"] (defScope sLMarks) := ⟨rfl, rfl, rfl, by decide +kernel, rfl, by decide +kernel, by decide +kernel⟩
theorem cal_lmarks {T : List (Addr × Str)} {f : Addr} {fd : FuncData} (F : Fun K "_law_marks" "_law_marks" sLMarks f fd) (hm : mg "_law_marks" = some (.ref f)) (X : Txt K mg) (GR : Met P w K mg base 3 C "row" (spRow T C)) : Cal P w K mg base 4 "_law_marks" (spLMarks T C) := by
  refine ⟨f, fd, ["_law_deeds_here", "_law_module"], F.ok scMk (fun vs H Q E h => ?_) (fun cdv A outer s H vs Q E hr h => ?_), hm, F.kp, F.binds fun _ _ _ _ _ _ us hl => match us, hl with | [_, _], _ => rfl⟩
  · obtain ⟨p, rows, B, m, rfl, _⟩ := h
    rfl
  · obtain ⟨p, rows, B, m, rfl, hD, hW, hT, k⟩ := h
    have nd := scMk.nd
    have hu65 : (A.deeper (envOfC "_law_marks" (defScope sLMarks) s.heap.objs.size f cdv)).units + 65 < cLine := by have := hr.un; omega
    refine ⟨_, (pss_cons (ps_set (i := 2) nd rfl (Or.inl rfl) (pe_mm GR hr (by decide) (pv 0) (pa_cons (pv 1) pa_nil)))
      (pss_cons (ps_if (pt_not (pt_val (pe_callB call_isi (by rfl) X.isinstance (by decide +kernel) (pa_cons (pv 2) (pa_cons (pe_bltn (v := .ty "list") rfl X.list (by decide +kernel) rfl) pa_nil))))) (pss_one (ps_ret pe_non)) pss_nil)
      (pss_cons (ps_set (i := 3) nd rfl (Or.inl rfl) (pe_lst pa_nil))
      (pss_cons (ps_for PassesOwn.never rfl (pi_list (pv 2)) (pg_name (i := 4) nd rfl (.inl rfl)) (pss_cons (ps_if (PW.pt (pw_or (pt_not (pt_val (pe_callB call_isi (by rfl) X.isinstance (by decide +kernel) (pa_cons (pv 4) (pa_cons (pe_bltn (v := .ty "tuple") rfl X.tuple (by decide +kernel) rfl) pa_nil))))) (pw_or (pt_cmpR op_ne (pe_callB call_len_seq (by rfl) X.len PySem.boot_len (pa_cons (pv 4) pa_nil)) pe_int (nomark _)) (pw_or1 (pt_cmpR (op_inD hu65) (pe_ix ix_tup (pv 4) pe_int (fun _ _ => rfl)) (pv 3) (by rfl)))))) (pss_one (ps_ret pe_non)) pss_nil)
      (pss_one (ps_expr (pe_bm PySem.F.plainAttrs_list PySem.F.slot_list_append PySem.F.type_list_append mt_append (pv 3) (pa_cons (pe_ix ix_tup (pv 4) pe_int (fun _ _ => rfl)) pa_nil))))))
      (pss_one (ps_ret (pv 3))))))), ?_⟩
    obtain ⟨dx, a0, hp, _⟩ := id hD
    have noR : ([("rows", V.ref a0)] : List (Str × V)).lookup ("row" : Str) = none := by
      rw [List.lookup_cons]
      have : (("row" : Str) == ("rows" : Str)) = false := by decide +kernel
      rw [this]
      rfl
    have hn := mksOf_nodup hW m
    have hl8 := mksOf_len hW m
    refine ⟨_, rfl, p, dx, _, rfl, hp, noR, _, rfl, p, rows, m, rfl, hD, hW.wb, hW.goodO m, hT, fun H1 q us e1 hq hP => ?_⟩
    have hrl : (rowR rows m).map (·.1) = mksOf rows m := rowR_marks rows m
    generalize mksOf rows m = M at hn hl8 hrl k
    refine ⟨_, rfl, .ref q, .ty "list", _, _, true, rfl, .ty _, .base (.lst hq), kit_ty (by decide +kernel), true, rfl, iteF ?_⟩
    refine ⟨Nat.zero_le _, fun ml hml => ?_⟩
    have s2 := Same.new (o := .lst []) hml
    refine ⟨_, rfl, q, rfl, ⟨_, SqL.of (s2 _ _ hq)⟩, ?_⟩
    refine for_list (K := K) (a := q) (xs := us) (fun i σ H2 => ∃ (w4 : Option V) (vs : List V), σ = [some (.ref p), some (.str m), some (.ref q), some (.ref ml), w4] ∧ Same H1 H2 ∧ H2 ml = some (.lst vs) ∧ Paired (IsMk H2) vs (M.take i)) ?_ ?_ ?_ ?_
    · exact ⟨none, [], rfl, s2, upd_same, .nil⟩
    · rintro i σ H2 _ ⟨w4, vs, rfl, s3, _⟩
      exact SqL.of (s3 _ _ hq)
    · rintro i x σ H2 gx ⟨w4, vs, rfl, s3, hv, hPv⟩
      obtain ⟨e, ge, ea, ex, rfl, hea, hex⟩ := p_get hP gx
      have gm : M[i]? = some e.1 := by rw [← hrl, List.getElem?_map, ge]; rfl
      have hea2 := s3 _ _ hea
      have hi := lt_of_get gm
      have hnot : e.1 ∉ M.take i := by
        intro z
        rw [take_split gm, List.nodup_append] at hn
        exact hn.2.2 _ z e.1 List.mem_cons_self rfl
      have hvl := Paired.length hPv
      rw [List.length_take] at hvl
      refine ⟨_, rfl, .ref ea, .ty "tuple", _, _, true, rfl, .ty _, .base (.tup hea2), kit_ty (by decide +kernel), true, rfl, iteF ?_⟩
      refine ⟨_, rfl, ea, _, rfl, .inr (SqT.of hea2), rfl, _, rfl, iteF ?_⟩
      refine ⟨_, rfl, ea, _, _, _, rfl, rfl, SqT.of hea2, atI_nat (j := 0) rfl, _, rfl, mkD e.1, (M.take i).map mkD, dp_mk (hex.tt (TT.of s3)), .lst (SqL.of hv) (dp_mks hPv), mkD_shaped _, mkDs_shaped _, _, rfl, ?_⟩
      rw [any_mk, decide_eq_false hnot]
      refine iteF ?_
      refine ⟨_, rfl, .inl ⟨rfl, _, SqL.of hv⟩, _, rfl, ea, _, _, _, rfl, rfl, SqT.of hea2, atI_nat (j := 0) rfl, ml, vs, _, rfl, rfl, hv, Nat.lt_of_lt_of_le (by omega : _ < 10000) (by decide), ?_⟩
      have tp : TT H2 (upd H2 ml (.lst (vs ++ [ex]))) := TT.putL hv
      refine ⟨_, vs ++ [ex], rfl, same_put s3 hml, upd_same, ?_⟩
      rw [take_snoc gm]
      exact Paired.snoc (p_mono hPv fun _ _ z => z.tt tp) ((hex.tt (TT.of s3)).tt tp)
    · rintro σ H2 ⟨w4, vs, rfl, s3, hv, hPv⟩
      have hML : M.take us.length = M := List.take_of_length_le (by rw [Paired.length hP, ← hrl, List.length_map]; exact Nat.le_refl _)
      rw [hML] at hPv
      exact ⟨_, rfl, k H2 ml vs (e1.trans (Ex.of s3)) hv hPv⟩
abbrev nSt : List Str := ["_law_rows", "_law_module", "_law_marks_here", "_law_replica", "_law_deed_here", "_law_force", "_law_mark", "_law_behind", "_law_char", "_law_first", "_law_last_here", "_law_other"]
theorem scSt : FnScope nSt ["_law_rows", "_law_module", "_law_marks_here"] (defScope sLStands) := ⟨rfl, rfl, rfl, by decide +kernel, rfl, by decide +kernel, by decide +kernel⟩
theorem cal_lstands {f : Addr} {fd : FuncData} (F : Fun K "_law_stands" "_law_stands" sLStands f fd) (hm : mg "_law_stands" = some (.ref f)) (X : Txt K mg) (GC : Cal P w K mg base 2 "_law_changes" spLChanges) (GI : Cal P w K mg base 1 "_law_inserted" spIns) : Cal P w K mg base 3 "_law_stands" spLStands := by
  refine ⟨f, fd, ["_law_rows", "_law_module", "_law_marks_here"], F.ok scSt (fun vs H Q E h => ?_) (fun cdv A outer s H vs Q E hr h => ?_), hm, F.kp, F.binds fun _ _ _ _ _ _ us hl => match us, hl with | [_, _, _], _ => rfl⟩
  · obtain ⟨a, q, rows, B, m, us, rfl, _⟩ := h
    rfl
  · obtain ⟨a, q, rows, B, m, us, rfl, hRL, hW, hq, hP, k⟩ := h
    have nd := scSt.nd
    have hu65 : (A.deeper (envOfC "_law_stands" (defScope sLStands) s.heap.objs.size f cdv)).units + 65 < cLine := by have := hr.un; omega
    have hu0 : (A.deeper (envOfC "_law_stands" (defScope sLStands) s.heap.objs.size f cdv)).units < cLine := by omega
    refine ⟨_, (pss_cons (ps_for PassesOwn.never rfl (pi_list (pe_f GC hr (by decide) rfl (pa_cons (pv 0) (pa_cons (pv 1) pa_nil)))) (pg_tup rfl (pgs_cons (pg_name (i := 3) nd rfl (.inl rfl)) (pgs_cons (pg_name (i := 4) nd rfl (.inl rfl)) (pgs_cons (pg_name (i := 5) nd rfl (.inl rfl)) pgs_nil)))) (pss_one (ps_for PassesOwn.never rfl (pi_list (pe_f GI hr (by decide) rfl (pa_cons (pv 3) (pa_cons (pv 4) pa_nil)))) (pg_tup rfl (pgs_cons (pg_name (i := 6) nd rfl (.inr rfl)) (pgs_cons (pg_name (i := 7) nd rfl (.inl rfl)) (pgs_cons (pg_name (i := 8) nd rfl (.inl rfl)) pgs_nil)))) (pss_cons (ps_if (pt_cmpR (op_notInD hu65) (pv 6) (pv 2) (by rfl)) (pss_one (ps_ret pe_bl)) pss_nil)
      (pss_cons (ps_set (i := 9) nd rfl (Or.inl rfl) pe_int)
      (C8.pss_cut (ps_if (pt_cmpR op_notN (pv 7) pe_non (nomark _)) (pss_cons (ps_if (pt_cmpR (op_notInD hu65) (pv 7) (pv 2) (by rfl)) (pss_one (ps_ret pe_bl)) pss_nil)
      (pss_one (ps_set (i := 9) nd rfl (Or.inl rfl) (pe_op op_add (pe_bm PySem.F.plainAttrs_list PySem.F.slot_list_index PySem.F.type_list_index (mt_indexD hu65) (pv 2) (pa_cons (pv 7) pa_nil)) pe_int)))) pss_nil)
      (pss_cons (ps_set (i := 10) nd rfl (Or.inl rfl) (pe_bm PySem.F.plainAttrs_list PySem.F.slot_list_index PySem.F.type_list_index (mt_indexD hu65) (pv 2) (pa_cons (pv 6) pa_nil)))
      (pss_one (ps_if (PW.pt (pw_or (pt_cmpR op_gt (pv 9) (pv 10) (nomark _)) (pw_or1 (pt_cmpR op_gt (pe_callB call_len_seq (by rfl) X.len PySem.boot_len (pa_cons (pe_lc (own := [("_law_other", 11)]) (g := gName 11) (tt := tB (tOp (rLtT K) (tVar 11) (tVar 6))) (te := tVar 11) rfl nd (pi_list (pe_slice sl_list (pv 2) (po_some (pv 9)) (po_some (pv 10)))) (blkOk_by (N := nSt) (sc := defScope sLStands) (by decide +kernel)) (fun _ _ _ _ _ => pg_name (i := 11) nd rfl (.inl rfl)) (fun _ _ _ _ _ => pts_one (pt_cmpR (op_ltT hu0) (pv 11) (pv 6) (nomark _))) (fun _ _ _ _ _ => pv 11)) pa_nil)) pe_int (nomark _))))) (pss_one (ps_ret pe_bl)) pss_nil)))))))))
      (pss_one (ps_ret pe_bl))), ?_⟩
    refine ⟨_, rfl, _, rfl, a, rows, m, rfl, hRL, hW.wb, fun H1 qc us0 fs0 s1 hqc hqc1 hPC hbare => ?_⟩
    refine ⟨qc, rfl, ⟨_, SqL.of hqc1⟩, ?_⟩
    refine for_list (K := K) (a := qc) (xs := us0) (fun i σ H2 => ∃ (w3 w4 w5 w6 w7 w8 w9 w10 : Option V), σ = [some (.ref a), some (.str m), some (.ref q), w3, w4, w5, w6, w7, w8, w9, w10, none] ∧ Same H1 H2) ?_ ?_ ?_ ?_
    · exact ⟨none, none, none, none, none, none, none, none, rfl, Same.refl _⟩
    · rintro i σ H2 _ ⟨w3, w4, w5, w6, w7, w8, w9, w10, rfl, s2⟩
      exact SqL.of (s2 _ _ hqc1)
    · rintro i x σ H2 gx ⟨w3, w4, w5, w6, w7, w8, w9, w10, rfl, s2⟩
      obtain ⟨⟨r, d, fo⟩, gc, hch⟩ := p_get hPC gx
      obtain ⟨ca, dv, rfl, hca, hdv⟩ := hch.tt (TT.of s2)
      have hmem := List.mem_of_getElem? gc
      obtain ⟨hdb, hr8, hcg⟩ := bare_mem hbare hW.wb hmem
      have hin : bare (r, d, fo) ∈ chD rows m 8 := by rw [← hbare]; exact List.mem_map.mpr ⟨_, hmem, rfl⟩
      obtain ⟨_, hin2, _⟩ := mem_chD.mp hin
      obtain ⟨rem, beh, num, text, e⟩ := isChg_shape hcg
      have e : d = Deed.chg m rem beh num text := e
      subst e
      obtain ⟨hd1, hd2, _⟩ := hdb
      refine ⟨ca, _, rfl, SqT.of hca, rfl, _, _, rfl, _, _, rfl, _, _, rfl, rfl, ?_⟩
      refine ⟨_, rfl, _, rfl, (r : Nat), dv, m, rem, beh, num, text, rfl, hdv, by omega, fun H3 pi ui s4 hpi hpi3 hPi => ?_⟩
      refine ⟨pi, rfl, ⟨_, SqL.of hpi3⟩, ?_⟩
      refine for_list (K := K) (a := pi) (xs := ui) (fun i σ H4 => ∃ (w6 w7 w8 w9 w10 : Option V), σ = [some (.ref a), some (.str m), some (.ref q), some (.int (r : Nat)), some dv, some (.bl fo), w6, w7, w8, w9, w10, none] ∧ Same H3 H4) ?_ ?_ ?_ ?_
      · exact ⟨w6, w7, w8, w9, w10, rfl, Same.refl _⟩
      · rintro j σ H4 _ ⟨w6, w7, w8, w9, w10, rfl, s5⟩
        exact SqL.of (s5 _ _ hpi3)
      · rintro j y σ H4 gy ⟨w6, w7, w8, w9, w10, rfl, s5⟩
        obtain ⟨⟨mk, mb, cc⟩, ge, hy⟩ := p_get hPi gy
        obtain ⟨ia, ix, iy, rfl, hia, hix, hiy⟩ := hy.tt (TT.of s5)
        have s34 := s4.trans s5
        have s14 := s2.trans s34
        have s04 := s1.trans s14
        have hq4 := s04 _ _ hq
        have hP4 := p_mono hP fun _ _ z => z.tt (TT.of s04)
        have gE : (entsOf (r : Nat) false (.chg m rem beh num text))[j]? = some ⟨mk, mb, cc, false⟩ := by
          show (List.map _ _)[j]? = _
          rw [List.getElem?_map, ge]
          rfl
        obtain ⟨g1, g2, g3⟩ := ents_get gE
        have hEI : EI rows m ⟨mk, mb, cc, false⟩ := ⟨r, rem, beh, num, text, j, hr8, hin2, g1, g2, g3⟩
        obtain ⟨t1, t2, t3⟩ := stands_at hW hEI
        have t1 : mk ∈ mksOf rows m := t1
        have t2 : ∀ b, mb = some b → b ∈ mksOf rows m := t2
        have hl8 := mksOf_len hW m
        have hiM := List.idxOf_lt_length_of_mem t1
        have hul := Paired.length hP4
        have hmkM := dp_mks (K := K) hP4
        clear gE g1 g2 g3 hEI
        refine ⟨ia, _, rfl, SqT.of hia, rfl, _, _, rfl, _, _, rfl, _, _, rfl, rfl, ?_⟩
        obtain ⟨ma, rfl, hma⟩ := id hix
        refine ⟨_, rfl, _, rfl, mkD mk, (mksOf rows m).map mkD, dp_mk ⟨ma, rfl, hma⟩, .lst (SqL.of hq4) hmkM, mkD_shaped _, mkDs_shaped _, _, rfl, ?_⟩
        rw [any_mk, decide_eq_true t1]
        refine iteF ?_
        refine ⟨fun σ H5 => ∃ fi : Nat, σ = [some (.ref a), some (.str m), some (.ref q), some (.int (r : Nat)), some dv, some (.bl fo), some (.ref ma), some iy, some (.str ⟨#[cc]⟩), some (.int (fi : Nat)), w10, none] ∧ H5 = H4 ∧ fi ≤ 8000 ∧ fi = fiOf (mksOf rows m) mb, ?_, ?_⟩
        · refine ⟨_, rfl, rfl, _, rfl, ?_⟩
          cases mb with
          | none =>
            have hiy : iy = .non := hiy
            subst hiy
            exact iteF ⟨0, rfl, rfl, Nat.zero_le _, rfl⟩
          | some b =>
            obtain ⟨ba, rfl, hba⟩ := (show IsMk H4 iy b from hiy)
            have hb := t2 b rfl
            obtain ⟨x1, x2, x3⟩ := idx_mk hb
            have hib := List.idxOf_lt_length_of_mem hb
            refine iteT ⟨_, rfl, _, rfl, mkD b, (mksOf rows m).map mkD, dp_mk ⟨ba, rfl, hba⟩, .lst (SqL.of hq4) hmkM, mkD_shaped _, mkDs_shaped _, _, rfl, ?_⟩
            rw [any_mk, decide_eq_true hb]
            refine iteF ?_
            refine ⟨_, rfl, .inl ⟨rfl, _, SqL.of hq4⟩, _, rfl, q, _, mkD b, _, _, _, rfl, rfl, .lst (SqL.of hq4) hmkM, dp_mk ⟨ba, rfl, hba⟩, mkDs_shaped _, mkD_shaped _, x1, x2, x3, _, _, rfl, rfl, ?_⟩
            exact ⟨(mksOf rows m).idxOf b + 1, rfl, rfl, by omega, rfl⟩
        · rintro σ H5 ⟨fi, rfl, rfl, hf8, hfi⟩
          obtain ⟨t4, t5⟩ := t3 fi hfi
          have t4 : fi ≤ (mksOf rows m).idxOf mk := t4
          have t5 : ∀ x ∈ ((mksOf rows m).drop fi).take ((mksOf rows m).idxOf mk - fi), mlt x mk = false := t5
          obtain ⟨x1, x2, x3⟩ := idx_mk t1
          refine ⟨_, rfl, .inl ⟨rfl, _, SqL.of hq4⟩, _, rfl, q, _, mkD mk, _, _, _, rfl, rfl, .lst (SqL.of hq4) hmkM, dp_mk ⟨ma, rfl, hma⟩, mkDs_shaped _, mkD_shaped _, x1, x2, x3, ?_⟩
          clear x1 x2 x3 t3 hfi
          generalize (mksOf rows m).idxOf mk = li at t4 t5 hiM
          refine ⟨_, rfl, _, rfl, _, _, rfl, rfl, _, rfl, ?_⟩
          refine ite2 (fun z => absurd (of_decide_eq_true z) (by omega)) fun _ => ?_
          refine ⟨_, rfl, _, rfl, _, rfl, _, rfl, _, rfl, q, us, rfl, SqL.of hq4, fun sl hsl => ?_⟩
          rw [cutV_nat us fi li (by omega) (by omega)]
          have hPs : Paired (IsMk H5) ((us.drop fi).take (li - fi)) (((mksOf rows m).drop fi).take (li - fi)) := p_take _ (p_drop _ hP4)
          generalize (us.drop fi).take (li - fi) = ss at hPs
          generalize ((mksOf rows m).drop fi).take (li - fi) = MS at hPs t5
          have s6 := Same.new (o := .lst ss) hsl
          refine ⟨sl, rfl, ⟨_, SqL.of upd_same⟩, fun D0 hD0 => ?_⟩
          have hslx : upd H5 sl (.lst ss) sl = some (.lst ss) := upd_same
          generalize upd H5 sl (.lst ss) = H6 at s6 hD0 hslx
          refine lc_list (K := K) (a := sl) (xs := ss) (fun j H7 => Same H6 H7 ∧ H7 D0 = some (.lst [])) ?_ ?_ ?_ ?_
          · exact ⟨Same.new hD0, upd_same⟩
          · rintro j H7 _ ⟨s7, _⟩
            exact SqL.of (s7 _ _ hslx)
          · rintro j z H7 gz ⟨s7, hL⟩
            obtain ⟨zm, gm, za, rfl, hza⟩ := p_get hPs gz
            have s57 := s6.trans s7
            have hlx : HT.lexLt [zm.1, zm.2] [mk.1, mk.2] = false := by
              rw [lex_mlt]
              exact t5 _ (List.mem_of_getElem? gm)
            refine ⟨rfl, _, rfl, _, rfl, za, ma, [zm.1, zm.2], [mk.1, mk.2], rfl, rfl, SqT.of (s57 _ _ hza), SqT.of (s57 _ _ hma), ?_⟩
            rw [hlx]
            exact ⟨_, rfl, iteF ⟨s7, hL⟩⟩
          · rintro H7 ⟨s7, hL⟩
            refine ⟨D0, _, rfl, .inl (SqL.of hL), _, _, rfl, rfl, _, rfl, iteF ?_⟩
            exact ⟨_, _, _, _, _, rfl, (s5.trans s6).trans s7⟩
      · rintro σ H4 ⟨w6, w7, w8, w9, w10, rfl, s5⟩
        exact ⟨_, _, _, _, _, _, _, _, rfl, (s2.trans s4).trans s5⟩
    · rintro σ H2 ⟨w3, w4, w5, w6, w7, w8, w9, w10, rfl, s2⟩
      exact k H2 (s1.trans s2)
end
end Q3

set_option Elab.async false
set_option linter.all false
set_option maxRecDepth 100000
set_option maxHeartbeats 8000000
/-! the law -/
namespace Q3
open PySem PySem.Spec PyProof.Rows L2 LamX
theorem p_join {α β γ : Type} {R : α → γ → Prop} {S : β → γ → Prop} : ∀ {xs : List α} {ys : List β} {l : List γ}, Paired R xs l → Paired S ys l → Paired (fun x y => ∃ e, R x e ∧ S y e) xs ys
  | _, _, _, .nil, .nil => .nil
  | _, _, _, .cons a t, .cons b u => .cons ⟨_, a, b⟩ (p_join t u)
theorem res_same {H : Hp} {x y : V} {e : Mark × Nat × Bool} (hx : IsRes H x e) (hy : IsRes H y e) : Rn 2 H x y := by
  obtain ⟨a, v, rfl, ha, ma, rfl, hma⟩ := hx
  obtain ⟨b, w, rfl, hb, mb, rfl, hmb⟩ := hy
  refine .inr ⟨a, b, _, _, rfl, rfl, .inr ⟨ha, hb⟩, ?_, by show 3 ≤ 10000; decide⟩
  refine .cons ?_ (.cons (.inl (.inr (.inl ⟨_, rfl, rfl⟩))) (.cons (.inl (.inr (.inr ⟨_, rfl, rfl⟩))) .nil))
  refine .inr ⟨ma, mb, _, _, rfl, rfl, .inr ⟨hma, hmb⟩, ?_, by show 2 ≤ 10000; decide⟩
  exact .cons (.inl ⟨_, rfl, rfl⟩) (.cons (.inl ⟨_, rfl, rfl⟩) .nil)
theorem rows_same {H : Hp} {p q : Addr} {us vs : List V} {l : List (Mark × Nat × Bool)} (hp : H p = some (.lst us)) (hq : H q = some (.lst vs)) (h1 : Paired (IsRes H) us l) (h2 : Paired (IsRes H) vs l) (hl : l.length ≤ 8000) : Rn 3 H (.ref p) (.ref q) := by
  refine .inr ⟨p, q, us, vs, rfl, rfl, .inl ⟨hp, hq⟩, p_mono (p_join h1 h2) fun _ _ ⟨_, a, b⟩ => res_same a b, ?_⟩
  rw [Paired.length h1]
  omega
/-- the rows from the last replica on -/
def thB (rows : List (List Deed)) (j i : Nat) : List (List Deed) := (List.range 8).map fun r => if 8 ≤ r + j then rows.getD r [] else if r + j = 7 then (rows.getD r []).take i else []
theorem thB_len (rows : List (List Deed)) (j i : Nat) : (thB rows j i).length = 8 := by unfold thB; rw [List.length_map, List.length_range]
theorem thB_get {rows : List (List Deed)} {j i r : Nat} (h : r < 8) : (thB rows j i).getD r [] = if 8 ≤ r + j then rows.getD r [] else if r + j = 7 then (rows.getD r []).take i else [] := by
  unfold thB
  rw [List.getD_eq_getElem?_getD, List.getElem?_map, List.getElem?_range h]
  rfl
theorem rows_ext8 {A B : List (List Deed)} (ha : A.length = 8) (hb : B.length = 8) (h : ∀ k, k < 8 → A.getD k [] = B.getD k []) : A = B := by
  refine rows_ext (by rw [ha, hb]) fun k => ?_
  by_cases q : k < 8
  · exact h k q
  · rw [List.getD_eq_getElem?_getD, List.getD_eq_getElem?_getD, List.getElem?_eq_none (by omega), List.getElem?_eq_none (by omega)]
theorem thB_start (rows : List (List Deed)) : thB rows 0 0 = noRows := by
  refine rows_ext8 (thB_len _ _ _) rfl fun k hk => ?_
  rw [thB_get hk, noRows_get, if_neg (by omega), List.take_zero]
  split <;> rfl
theorem thB_next {rows : List (List Deed)} {j i : Nat} (h : (rows.getD (7 - j) []).length ≤ i) (hj : j < 8) : thB rows j i = thB rows (j + 1) 0 := by
  refine rows_ext8 (thB_len _ _ _) (thB_len _ _ _) fun k hk => ?_
  rw [thB_get hk, thB_get hk]
  by_cases h1 : 8 ≤ k + j
  · rw [if_pos h1, if_pos (by omega)]
  · rw [if_neg h1]
    by_cases h2 : k + j = 7
    · have e : k = 7 - j := by omega
      subst e
      rw [if_pos h2, if_pos (by omega), List.take_of_length_le h]
    · rw [if_neg h2, if_neg (by omega), List.take_zero]
      split <;> rfl
theorem thB_end {rows : List (List Deed)} (hl : rows.length = 8) : thB rows 8 0 = rows := by
  refine rows_ext8 (thB_len _ _ _) hl fun k hk => ?_
  rw [thB_get hk, if_pos (by omega)]
theorem thB_add {rows : List (List Deed)} {j i : Nat} {d : Deed} (hj : j < 8) (h : (rows.getD (7 - j) [])[i]? = some d) : addR (thB rows j i) (7 - j) d = thB rows j (i + 1) := by
  refine rows_ext8 (by rw [addR_len, thB_len]) (thB_len _ _ _) fun k hk => ?_
  rw [addR_get (by rw [thB_len]; omega), thB_get hk, thB_get hk, thB_get (by omega)]
  by_cases h1 : k = 7 - j
  · subst h1
    rw [if_pos rfl, if_neg (by omega), if_pos (by omega), if_neg (by omega), if_pos (by omega), take_snoc h]
  · rw [if_neg h1]
    by_cases h2 : 8 ≤ k + j
    · rw [if_pos h2, if_pos h2]
    · rw [if_neg h2, if_neg h2, if_neg (by omega), if_neg (by omega)]
theorem eqv_mks (ms : List Mark) : PyData.eqv (.list (ms.map mkD)) (.list (ms.map mkD)) = true := PySem.SeqAt.eqv_refl _ (by simp only [PyData.canLay0, mkDs_lay])
def spLaw (K : PySem.W.Frag) (T : List (Addr × Str)) : Sp := fun vs H Q _ => ∃ (a : Addr) (ns : List Int), vs = [.ref a] ∧ SqL K H a (ns.map V.int) ∧ ns.length ≤ 63 ∧ Tabs T H ∧ ∀ H', Q (.bl true) H'
abbrev nLaw : List Str := ["_law_script", "_law_draws_here", "_law_count", "_law_triples_here", "_law_rows", "_law_first", "_law_second", "_law_third", "_law_replica", "_law_deed_here", "_law_module", "_law_before", "_law_behind", "_law_mark"]
section
variable {P : Program} {w : World} {K : PySem.W.Frag} {mg : Str → Option Value} {base : Heap} {C : Addr}
theorem scLaw : FnScope nLaw ["_law_script"] (defScope sLaw) := ⟨rfl, rfl, rfl, by decide +kernel, rfl, by decide +kernel, by decide +kernel⟩
theorem ok_law {T : List (Addr × Str)} {f : Addr} {fd : FuncData} (F : Fun K "law" "law" sLaw f fd) (X : Txt K mg) (GA : Cal P w K mg base 2 "_law_at" spAt) (GDr : Cal P w K mg base 2 "_law_draws" (spDraws K)) (GTr : Cal P w K mg base 5 "_law_triples" (spLTrip T)) (GRo : Cal P w K mg base 1 "_law_rows_of" spLRowsOf)
    (GDs : Cal P w K mg base 3 "_law_deeds" (spLDeeds C)) (GK : Mak P w K mg base 1 "Deeds" C (spDInit C)) (GAd : Met P w K mg base 1 C "add" (spDAdd C)) (GMo : Cal P w K mg base 1 "_law_modules" spLMods) (GM : Cal P w K mg base 4 "_law_marks" (spLMarks T C)) (GSt : Cal P w K mg base 3 "_law_stands" spLStands)
    (GSm : Cal P w K mg base 5 "_law_same" (spSm (Rn 3))) (GR : Met P w K mg base 3 C "row" (spRow T C)) : FnOk P w K mg base CX0 6 f fd ["_law_script"] (spLaw K T) := by
  refine F.ok scLaw (fun vs H Q E h => ?_) (fun cdv A outer s H vs Q E hr h => ?_)
  · obtain ⟨a, ns, rfl, _⟩ := h
    rfl
  · obtain ⟨a, ns, rfl, hS, hns, hT, k⟩ := h
    have nd := scLaw.nd
    have hu65 : (A.deeper (envOfC "law" (defScope sLaw) s.heap.objs.size f cdv)).units + 65 < cLine := by have := hr.un; omega
    have hu64 : (A.deeper (envOfC "law" (defScope sLaw) s.heap.objs.size f cdv)).units + 64 < cLine := by omega
    refine ⟨_, (pss_cons (ps_set (i := 1) nd rfl (Or.inl rfl) (pe_f GDr hr (by decide) rfl (pa_cons (pv 0) pa_nil)))
      (pss_cons (ps_set (i := 2) nd rfl (Or.inl rfl) (pe_op op_mod (pe_f GA hr (by decide) rfl (pa_cons (pv 1) (pa_cons pe_int pa_nil))) pe_int))
      (pss_cons (ps_set (i := 3) nd rfl (Or.inl rfl) (pe_f GTr hr (by decide) rfl (pa_cons (pv 1) (pa_cons pe_int (pa_cons (pe_op op_add (pe_op op_add (pv 2) pe_int) (pe_op op_mod (pe_f GA hr (by decide) rfl (pa_cons (pv 1) (pa_cons pe_int pa_nil))) pe_int)) (pa_cons (pe_op op_add pe_int (pe_op op_mod (pe_f GA hr (by decide) rfl (pa_cons (pv 1) (pa_cons pe_int pa_nil))) pe_int)) pa_nil))))))
      (pss_cons (ps_set (i := 4) nd rfl (Or.inl rfl) (pe_f GRo hr (by decide) rfl (pa_cons (pv 3) pa_nil)))
      (pss_cons (ps_set (i := 5) nd rfl (Or.inl rfl) (pe_f GDs hr (by decide) rfl (pa_cons (pe_slice sl_list (pv 3) po_none (po_some (pv 2))) pa_nil)))
      (pss_cons (ps_set (i := 6) nd rfl (Or.inl rfl) (pe_f GDs hr (by decide) rfl (pa_cons (pv 3) pa_nil)))
      (pss_cons (ps_set (i := 7) nd rfl (Or.inl rfl) (pe_k0 GK hr (by decide) rfl))
      (pss_cons (ps_for PassesOwn.never rfl (pi_range1 rfl X.range (pa_cons pe_int pa_nil)) (pg_name (i := 8) nd rfl (.inl rfl)) (pss_one (ps_for PassesOwn.never rfl (pi_list (pe_ix ix_list (pv 4) (pe_op op_sub pe_int (pv 8)) (fun _ _ => rfl))) (pg_name (i := 9) nd rfl (.inl rfl)) (pss_one (ps_expr (pe_mm GAd hr (by decide) (pv 7) (pa_cons (pe_op op_sub pe_int (pv 8)) (pa_cons (pv 9) pa_nil))))))))
      (pss_cons (ps_for PassesOwn.never rfl (pi_list (pe_f0 GMo hr (by decide) rfl)) (pg_name (i := 10) nd rfl (.inl rfl)) (pss_cons (ps_set (i := 11) nd rfl (Or.inr rfl) (pe_f GM hr (by decide) rfl (pa_cons (pv 5) (pa_cons (pv 10) pa_nil))))
      (pss_cons (ps_set (i := 12) nd rfl (Or.inl rfl) (pe_f GM hr (by decide) rfl (pa_cons (pv 6) (pa_cons (pv 10) pa_nil))))
      (pss_cons (ps_if (PW.pt (pw_or (pt_cmpR op_isN (pv 11) pe_non (nomark _)) (pw_or (pt_cmpR op_isN (pv 12) pe_non (nomark _)) (pw_or1 (pt_not (pt_val (pe_f GSt hr (by decide) rfl (pa_cons (pv 4) (pa_cons (pv 10) (pa_cons (pv 12) pa_nil)))))))))) (pss_one (ps_ret pe_bl)) pss_nil)
      (pss_cons (ps_if (pt_cmpR (op_neD hu64) (pe_lc (own := [("_law_mark", 13)]) (g := gName 13) (tt := tB (tOp (rInD K) (tVar 13) (tVar 11))) (te := tVar 13) rfl nd (pi_list (pv 12)) (blkOk_by (N := nLaw) (sc := defScope sLaw) (by decide +kernel)) (fun _ _ _ _ _ => pg_name (i := 13) nd rfl (.inl rfl)) (fun _ _ _ _ _ => pts_one (pt_cmpR (op_inD hu65) (pv 13) (pv 11) (by rfl))) (fun _ _ _ _ _ => pv 13)) (pv 11) (by rfl)) (pss_one (ps_ret pe_bl)) pss_nil)
      (pss_one (ps_if (pt_not (pt_val (pe_f GSm hr (by decide) rfl (pa_cons (pe_mm GR hr (by decide) (pv 7) (pa_cons (pv 10) pa_nil)) (pa_cons (pe_mm GR hr (by decide) (pv 6) (pa_cons (pv 10) pa_nil)) pa_nil))))) (pss_one (ps_ret pe_bl)) pss_nil)))))))
      (pss_one (ps_ret pe_bl))))))))))), ?_⟩
    refine ⟨_, rfl, a, ns, rfl, hS, hns, fun H1 q ds s1 hq hdl hdr => ?_⟩
    have hDr : DrAt H1 q := ⟨ds, hq, hdl, hdr⟩
    refine ⟨_, rfl, q, 0, rfl, hDr, by decide, fun v0 hv0 => ?_⟩
    refine ⟨_, _, rfl, rfl, (by show (0 : Int) < _; decide), ?_⟩
    obtain ⟨cn, hcn⟩ : ∃ cn : Nat, v0 % 19 = (cn : Int) := ⟨_, (Int.toNat_of_nonneg (Int.emod_nonneg _ (by decide))).symm⟩
    have hcn2 : v0 % 19 < 19 := Int.emod_lt_of_pos _ (by decide)
    refine ⟨_, rfl, _, rfl, _, _, rfl, rfl, _, rfl, q, 1, rfl, hDr, by decide, fun v1 hv1 => ?_⟩
    refine ⟨_, _, rfl, rfl, (by show (0 : Int) < _; decide), _, _, rfl, rfl, _, rfl, q, 2, rfl, hDr, by decide, fun v2 hv2 => ?_⟩
    obtain ⟨sn, hsn⟩ : ∃ sn : Nat, v0 % 19 + 1 + v1 % 4 = (sn : Int) := ⟨_, (Int.toNat_of_nonneg (by have := Int.emod_nonneg v1 (show (4 : Int) ≠ 0 by decide); omega)).symm⟩
    obtain ⟨mo, hmo⟩ : ∃ mo : Nat, 1 + v2 % 5 = (mo : Int) := ⟨_, (Int.toNat_of_nonneg (by have := Int.emod_nonneg v2 (show (5 : Int) ≠ 0 by decide); omega)).symm⟩
    have hT1 := hT.ext s1
    refine ⟨_, _, rfl, rfl, (by show (0 : Int) < _; decide), _, _, rfl, rfl, q, 20, sn, mo, ?_, hDr, by decide, ?_, ?_, ?_, hT1, fun H2 tl S e2 hTr hG => ?_⟩
    · show [V.ref q, V.int 20, V.int (v0 % 19 + 1 + v1 % 4), V.int (1 + v2 % 5)] = _
      rw [hsn, hmo]
    · have := Int.emod_lt_of_pos v1 (show (0 : Int) < 4 by decide)
      omega
    · have := Int.emod_nonneg v2 (show (5 : Int) ≠ 0 by decide)
      omega
    · have := Int.emod_lt_of_pos v2 (show (0 : Int) < 5 by decide)
      omega
    have hT2 := e2.tab hT1
    obtain ⟨ts, hts, hPt⟩ := id hTr
    refine ⟨_, rfl, tl, S, rfl, hTr, hG, fun H3 ro s3 hRo => ?_⟩
    refine ⟨_, rfl, _, rfl, _, rfl, tl, ts, rfl, SqL.of (s3 _ _ hts), fun sl hsl => ?_⟩
    rw [hcn, cut_take]
    have s4 := Same.new (o := .lst (ts.take cn)) hsl
    have hTr4 : TripAt (upd H3 sl (.lst (ts.take cn))) sl (S.take cn) := ⟨_, upd_same, p_take _ (p_mono hPt fun _ _ z => z.tt (TT.of (s3.trans s4)))⟩
    have hTr4b := hTr.same (s3.trans s4)
    have hRo4 := hRo.same s4
    have hT4 := (hT2.ext s3).ext s4
    generalize upd H3 sl (.lst (ts.take cn)) = H4 at hTr4 hTr4b hRo4 hT4
    clear hRo s4 s3 hTr hsl
    refine ⟨sl, S.take cn, rfl, hTr4, hG.take cn, fun H5 p1 h1 => ?_⟩
    refine ⟨_, rfl, tl, S, rfl, hTr4b.same h1.1, hG, fun H6 p2 h2 => ?_⟩
    intro p3 dx hp3 hdx hne
    have s7 : Same H6 (upd (upd H6 dx (.own p3)) p3 (.ins C dx [])) := same_put (Same.new hdx) hp3
    refine ⟨H6, p3, dx, rfl, s7, hp3, upd_same, fun H7 h3 => ⟨rfl, ?_⟩⟩
    clear s7
    have hl8 := rowsOf_len S
    have hSl := hG.len
    have hRo6 := (hRo4.same h1.1).same h2.1
    refine ⟨8, rfl, by decide, by decide, ?_⟩
    refine for_range (lo := 0) (n := 8) (fun j σ H8 => ∃ (w8 w9 : Option V), σ = [some (.ref a), some (.ref q), some (.int (v0 % 19)), some (.ref tl), some (.ref ro), some (.ref p1), some (.ref p2), some (.ref p3), w8, w9, none, none, none, none] ∧ DeedsIn C H6 H8 p3 (thB (rowsOf S) j 0)) ?_ ?_ ?_
    · exact ⟨none, none, rfl, by rw [thB_start]; exact h3⟩
    · rintro j σ H8 hj ⟨w8, w9, rfl, h8⟩
      have ez : (0 : Int) + (j : Nat) = ((j : Nat) : Int) := by omega
      rw [ez]
      have e7 : (7 : Int) - ((j : Nat) : Int) = ((7 - j : Nat) : Int) := by omega
      obtain ⟨bs, ha, hP⟩ := id hRo6
      have gr : (rowsOf S)[7 - j]? = some (rowsOf S)[7 - j] := List.getElem?_eq_getElem (by omega)
      have gd : (rowsOf S).getD (7 - j) [] = (rowsOf S)[7 - j] := by rw [List.getD_eq_getElem?_getD, gr]; rfl
      have hrl := row_len S (7 - j)
      obtain ⟨b, gb, vs, hb, hv⟩ := p_get' hP gr
      rw [← gd] at hv
      have ga : (bs.map V.ref)[7 - j]? = some (V.ref b) := by rw [List.getElem?_map, gb]; rfl
      have hvl := Paired.length hv
      refine ⟨_, rfl, _, rfl, _, _, rfl, rfl, ro, _, _, _, rfl, rfl, SqL.of (h8.1 _ _ ha), by rw [e7]; exact atI_nat ga, b, rfl, ⟨_, SqL.of (h8.1 _ _ hb)⟩, ?_⟩
      refine for_list (K := K) (a := b) (xs := vs) (fun i σ H9 => ∃ (w9 : Option V), σ = [some (.ref a), some (.ref q), some (.int (v0 % 19)), some (.ref tl), some (.ref ro), some (.ref p1), some (.ref p2), some (.ref p3), some (.int (j : Nat)), w9, none, none, none, none] ∧ DeedsIn C H6 H9 p3 (thB (rowsOf S) j i)) ?_ ?_ ?_ ?_
      · exact ⟨w9, rfl, h8⟩
      · rintro i σ H9 _ ⟨w9, rfl, h9⟩
        exact SqL.of (h9.1 _ _ hb)
      · rintro i x σ H9 gx ⟨w9, rfl, h9⟩
        obtain ⟨d, gdd, hdv⟩ := p_get hv gx
        obtain ⟨_, _, dx2, a2, bs2, hp2, _⟩ := id h9
        have noA : ([("rows", V.ref a2)] : List (Str × V)).lookup ("add" : Str) = none := by
          rw [List.lookup_cons]
          have : (("add" : Str) == ("rows" : Str)) = false := by decide +kernel
          rw [this]
          rfl
        refine ⟨_, rfl, p3, dx2, _, rfl, hp2, noA, _, rfl, _, _, rfl, rfl, _, rfl, H6, p3, _, 7 - j, x, d, congrArg (fun z => [V.ref p3, V.int z, x]) e7, h9, by rw [thB_len]; omega, ?_, hdv.tt (TT.of h9.1), fun H10 h10 t10 => ?_⟩
        · rw [thB_get (by omega), if_neg (by omega), if_pos (by omega), List.length_take]
          omega
        · rw [thB_add hj gdd] at h10
          exact ⟨_, rfl, h10⟩
      · rintro σ H9 ⟨w9, rfl, h9⟩
        refine ⟨_, _, rfl, ?_⟩
        rw [← thB_next (i := vs.length) (by omega) hj]
        exact h9
    · rintro σ H8 ⟨w8, w9, rfl, h8⟩
      rw [thB_end hl8] at h8
      refine ⟨rfl, fun mo2 hmo2 => ⟨mo2, rfl, ⟨_, SqL.of upd_same⟩, ?_⟩⟩
      have s9 := Same.new (o := .lst (modS.map V.str)) hmo2
      have D1 := ((h1.at.ex (T := T) (Ex.of h2.1)).ex (T := T) (Ex.of h8.1)).ex (T := T) (Ex.of s9)
      have D2 := (h2.at.ex (T := T) (Ex.of h8.1)).ex (T := T) (Ex.of s9)
      have D3 := h8.at.ex (T := T) (Ex.of s9)
      have L9 := (hRo6.same h8.1).same s9
      have T9 := (((hT4.ext h1.1).ext h2.1).ext h8.1).ext s9
      have hmo9 : upd H8 mo2 (.lst (modS.map V.str)) mo2 = some (.lst (modS.map V.str)) := upd_same
      generalize upd H8 mo2 (.lst (modS.map V.str)) = H9 at D1 D2 D3 L9 T9 hmo9
      clear s9 h8 h3 h2 h1 hTr4b hTr4 hRo6 hRo4 hT4
      have wf1 := (hG.take cn).wf
      have wf2 := hG.wf
      refine for_list (K := K) (a := mo2) (xs := modS.map V.str) (fun i σ Hx => ∃ (w10 w11 w12 : Option V), σ = [some (.ref a), some (.ref q), some (.int (v0 % 19)), some (.ref tl), some (.ref ro), some (.ref p1), some (.ref p2), some (.ref p3), w8, w9, w10, w11, w12, none] ∧ Ex T H9 Hx) ?_ ?_ ?_ ?_
      · exact ⟨none, none, none, rfl, Ex.refl⟩
      · rintro i σ Hx _ ⟨w10, w11, w12, rfl, eX⟩
        exact SqL.of (eX.at hmo9)
      · rintro i x σ Hx gx ⟨w10, w11, w12, rfl, eX⟩
        obtain ⟨m, gm, rfl⟩ : ∃ m, modS[i]? = some m ∧ V.str m = x := by
          rw [List.getElem?_map] at gx
          cases q : modS[i]? with
          | none => rw [q] at gx; cases gx
          | some m => rw [q] at gx; cases gx; exact ⟨m, rfl, rfl⟩
        clear gx gm
        refine ⟨_, rfl, _, rfl, p1, _, _, m, rfl, D1.ex eX, wf1, eX.tab T9, fun H10 q1 us1 e10 hq1 hP1 => ?_⟩
        have eX1 := eX.trans e10
        refine ⟨_, rfl, _, rfl, p2, _, _, m, rfl, D2.ex eX1, wf2, eX1.tab T9, fun H11 q2 us2 e11 hq2 hP2 => ?_⟩
        have eX2 := eX1.trans e11
        have hq1b := e11.at hq1
        have hP1b := p_mono hP1 fun _ _ z => z.tt e11.tt
        refine ⟨_, rfl, rfl, _, rfl, iteF ?_⟩
        refine ⟨_, rfl, rfl, _, rfl, iteF ?_⟩
        refine ⟨_, rfl, _, rfl, _, rfl, ro, q2, _, _, m, us2, rfl, L9.ex eX2, wf2, hq2, hP2, fun H12 s12 => ⟨true, rfl, iteF ?_⟩⟩
        have eX3 := eX2.trans (Ex.of s12)
        have hq1c := s12 _ _ hq1b
        have hP1c := p_mono hP1b fun _ _ z => z.tt (TT.of s12)
        have hq2c := s12 _ _ hq2
        have hP2c := p_mono hP2 fun _ _ z => z.tt (TT.of s12)
        clear hP1b hP1 hP2 hq1 hq1b hq2
        have hpart : (mksOf (rowsOf S) m).filter (fun z => decide (z ∈ mksOf (rowsOf (S.take cn)) m)) = mksOf (rowsOf (S.take cn)) m := wf1.part wf2 (rowsOf_take S cn) m
        have hml := mksOf_len wf2 m
        have hrow := rowR_marks (rowsOf S) m
        have hrl : (rowR (rowsOf S) m).length ≤ 8000 := by
          have z : ((rowR (rowsOf S) m).map (·.1)).length = (rowR (rowsOf S) m).length := List.length_map _
          rw [← z, hrow]
          exact hml
        clear hrow
        generalize mksOf (rowsOf S) m = M2 at hP2c hpart hml
        generalize mksOf (rowsOf (S.take cn)) m = M1 at hP1c hpart
        refine ⟨_, rfl, q2, rfl, ⟨_, SqL.of hq2c⟩, fun D0 hD0 => ?_⟩
        refine lc_list (K := K) (a := q2) (xs := us2) (fun i H13 => Same H12 H13 ∧ ∃ acc : List V, H13 D0 = some (.lst acc) ∧ acc.length ≤ i ∧ Paired (IsMk H13) acc ((M2.take i).filter fun z => decide (z ∈ M1))) ?_ ?_ ?_ ?_
        · exact ⟨Same.new hD0, [], upd_same, Nat.le_refl _, .nil⟩
        · rintro j H13 _ ⟨s13, _⟩
          exact SqL.of (s13 _ _ hq2c)
        · rintro j y H13 gy ⟨s13, acc, hacc, hal, hPa⟩
          obtain ⟨mk, gk, hy⟩ := p_get hP2c gy
          have hj := lt_of_get gk
          have hy13 := hy.tt (TT.of s13)
          refine ⟨rfl, _, rfl, _, rfl, mkD mk, M1.map mkD, dp_mk hy13, .lst (SqL.of (s13 _ _ hq1c)) (dp_mks (p_mono hP1c fun _ _ z => z.tt (TT.of s13))), mkD_shaped _, mkDs_shaped _, ?_⟩
          rw [any_mk]
          refine ⟨_, rfl, ?_⟩
          have eT := take_snoc gk
          by_cases hin : mk ∈ M1
          · rw [decide_eq_true hin]
            refine iteT ?_
            have tp : TT H13 (upd H13 D0 (.lst (acc ++ [y]))) := TT.putL hacc
            refine ⟨_, rfl, acc, hacc, Nat.lt_of_lt_of_le (by omega : _ < 10000) (by decide), same_put s13 hD0, acc ++ [y], upd_same, by rw [List.length_append, List.length_singleton]; omega, ?_⟩
            rw [eT, List.filter_append, List.filter_cons, if_pos (decide_eq_true hin), List.filter_nil]
            exact Paired.snoc (p_mono hPa fun _ _ z => z.tt tp) (hy13.tt tp)
          · rw [decide_eq_false hin]
            refine iteF ⟨s13, acc, hacc, by omega, ?_⟩
            rw [eT, List.filter_append, List.filter_cons, if_neg (by rw [decide_eq_false hin]; exact Bool.false_ne_true), List.filter_nil, List.append_nil]
            exact hPa
        · rintro H13 ⟨s13, acc, hacc, hal, hPa⟩
          have eM : M2.take us2.length = M2 := List.take_of_length_le (by rw [Paired.length hP2c]; exact Nat.le_refl _)
          rw [eM, hpart] at hPa
          refine ⟨_, rfl, .list (M1.map mkD), .list (M1.map mkD), .lst (SqL.of hacc) (dp_mks hPa), .lst (SqL.of (s13 _ _ hq1c)) (dp_mks (p_mono hP1c fun _ _ z => z.tt (TT.of s13))), mkDs_shaped _, mkDs_shaped _, _, rfl, ?_⟩
          rw [eqv_mks]
          refine iteF ?_
          have eX4 := eX3.trans (Ex.of s13)
          obtain ⟨dx3, a3, hp3', _⟩ := id (D3.ex eX4)
          have noR : ∀ a3 : Addr, ([("rows", V.ref a3)] : List (Str × V)).lookup ("row" : Str) = none := fun a3 => by
            rw [List.lookup_cons]
            have : (("row" : Str) == ("rows" : Str)) = false := by decide +kernel
            rw [this]
            rfl
          refine ⟨_, rfl, p3, dx3, _, rfl, hp3', noR a3, _, rfl, p3, _, m, rfl, D3.ex eX4, wf2.wb, wf2.goodO m, eX4.tab T9, fun H14 q3 us3 e14 hq3 hP3 => ?_⟩
          have eX5 := eX4.trans e14
          obtain ⟨dx4, a4, hp4', _⟩ := id (D2.ex eX5)
          refine ⟨_, rfl, p2, dx4, _, rfl, hp4', noR a4, _, rfl, p2, _, m, rfl, D2.ex eX5, wf2.wb, wf2.goodO m, eX5.tab T9, fun H15 q4 us4 e15 hq4 hP4 => ?_⟩
          refine ⟨_, _, rfl, rows_same (e15.at hq3) hq4 (p_mono hP3 fun _ _ z => z.tt e15.tt) hP4 hrl, fun H16 s16 => ⟨true, rfl, iteF ?_⟩⟩
          exact ⟨_, _, _, rfl, (eX5.trans e15).trans (Ex.of s16)⟩
      · rintro σ Hx ⟨w10, w11, w12, rfl, eX⟩
        exact k _
end
end Q3

set_option Elab.async false
set_option linter.all false
set_option maxRecDepth 100000
set_option maxHeartbeats 0
namespace Q3H
open PySem PySem.Spec PyProof.Rows L2 Q3
def hdD (x : Str) (st : Stmt) : He.DefD := ⟨(x, none), x, x, defArgs st, defBody st, defScope st, [], []⟩
def hdM (x q : Str) (st : Stmt) : He.DefD := ⟨("Deeds", some x), x, q, defArgs st, defBody st, defScope st, [], []⟩
def fn : List He.DefD := [hdD "inserted" sInserted, hdM "__init__" "Deeds.__init__" sDInit, hdM "add" "Deeds.add" sDAdd, hdM "forces" "Deeds.forces" sDForces, hdM "changes" "Deeds.changes" sDChanges, hdM "row" "Deeds.row" sDRow,
  hdD "_law_mix" sMix, hdD "_law_draws" sDraws, hdD "_law_at" sAt, hdD "_law_is_integer" sIsInt, hdD "_law_same" sSame, hdD "_law_inserted" sLInserted, hdD "_law_forces" sLForces, hdD "_law_changes" sLChanges, hdD "_law_row" sLRow,
  hdD "_law_last" sLLast, hdD "_law_modules" sLModules, hdD "_law_letters" sLLetters, hdD "_law_deed" sLDeed, hdD "_law_visible" sLVisible, hdD "_law_triples" sLTriples, hdD "_law_rows_of" sLRowsOf, hdD "_law_deeds" sLDeeds, hdD "_law_marks" sLMarks, hdD "_law_stands" sLStands, hdD "law" sLaw]
def globs : List Str := ["inserted", "Deeds", "_law_mix", "_law_draws", "_law_at", "_law_is_integer", "_law_same", "_law_inserted", "_law_forces", "_law_changes", "_law_row", "_law_last", "_law_modules", "_law_letters", "_law_deed", "_law_visible", "_law_triples", "_law_rows_of", "_law_deeds", "_law_marks", "_law_stands", "law"]
def frees : List Str := ["range", "len", "min", "max", "int", "isinstance", "list", "tuple", "sorted", "enumerate", "zip", "bool", "str"]
def fa : List He.Fa := globs.map He.Fa.glo ++ frees.map He.Fa.free ++ [.int "REPLICAS" 8, .cls "Deeds", .mkr "Deeds", .noat "Deeds" "rows", .meth "Deeds" "add", .meth "Deeds" "forces", .meth "Deeds" "changes", .meth "Deeds" "row"]
def tf : List He.Defn := [("Deeds", some "row"), ("_law_row", none)]
def exK (K : PySem.W.Frag) : Bool := !decide ((He.cT K ("Deeds", some "row")).2 = (He.cT K ("_law_row", none)).2)
abbrev R : PySem.W.OpenRow := PySem.W.OpenLaw.row PySem.Challenge.rw_quillrun_k03_whole_no_deed_moves_a_chara
abbrev hk : PySem.W.Hook := He.hookX 6 fa fn [] tf exK
def ob (s : PySem.W.SharedT) : He.AlX := He.obsX 6 fa fn [] tf exK (HandSHeadRun.getT s)
theorem ob_eq (s : PySem.W.SharedT) : ob s = hk.obs s.abs := He.obsX_eq (HandSHeadRun.getT_eq s)
theorem run (w : World) : HandSHeadRun.RunEq R (PySem.W.view R.prog [25]) hk ob 2000 ["_wall", "REPLICAS", "inserted", "Deeds", "_law_mix", "_law_draws", "_law_at", "_law_is_integer", "_law_same", "_law_inserted", "_law_forces", "_law_changes", "_law_row", "_law_last", "_law_modules", "_law_letters", "_law_deed", "_law_visible", "_law_triples", "_law_rows_of", "_law_deeds", "_law_marks", "_law_stands"] w := by
  intro os
  kernel_rfl
end Q3H

set_option Elab.async false
set_option linter.all false
set_option maxRecDepth 100000
set_option maxHeartbeats 8000000
/-! the end -/
namespace Q3H
open PySem PySem.Spec PyProof.Rows L2 LamX Q3
theorem code_of {K : PySem.W.Frag} {x q : Str} {st : Stmt} {p : He.Defn} {fd : FuncData} (F : Fun K x q st (He.fAd K p) fd) : fd.code = .ref (He.codeOf K p) := by
  obtain ⟨oc, od, kV, doc, pm, an, cdv, ct, osl, rfl, lk, hcd⟩ := F.ex
  obtain ⟨c1, hc1⟩ := He.codeIn_ref hcd
  have e := He.codeOf_eq lk (c := c1) hc1
  rw [e]
  exact hc1
theorem facts {w : World} {K : PySem.W.Frag} {h : Heap} {mg : Str → Option Value} {fL : Addr} (X : K.In h) (G : h.Ns mainGlobals mg) (hfa : mg ("law" : Str) = some (.ref fL)) (c : He.SaysX fa fn [] tf exK w h K) :
    LawAtS PySem.Challenge.rw_quillrun_k03_whole_no_deed_moves_a_chara w K CX0 6 63 "_law_script" mg fL h := by
  have D := c.t.d
  have glo : ∀ (i : Nat) (x : Str), fa[i]? = some (.glo x) → mg x = some (.ref (He.ga K x)) := fun i x e => He.glo_ok X G (D.fact i (f := .glo x) e)
  have fre : ∀ (i : Nat) (x : Str), fa[i]? = some (.free x) → mg x = none := fun i x e => He.free_ok X G (D.fact i (f := .free x) e)
  obtain ⟨f0, F0⟩ := D.def_ 0 (d := hdD "inserted" sInserted) rfl
  obtain ⟨f1, F1⟩ := D.def_ 1 (d := hdM "__init__" "Deeds.__init__" sDInit) rfl
  obtain ⟨f2, F2⟩ := D.def_ 2 (d := hdM "add" "Deeds.add" sDAdd) rfl
  obtain ⟨f3, F3⟩ := D.def_ 3 (d := hdM "forces" "Deeds.forces" sDForces) rfl
  obtain ⟨f4, F4⟩ := D.def_ 4 (d := hdM "changes" "Deeds.changes" sDChanges) rfl
  obtain ⟨f5, F5⟩ := D.def_ 5 (d := hdM "row" "Deeds.row" sDRow) rfl
  obtain ⟨f6, F6⟩ := D.def_ 6 (d := hdD "_law_mix" sMix) rfl
  obtain ⟨f7, F7⟩ := D.def_ 7 (d := hdD "_law_draws" sDraws) rfl
  obtain ⟨f8, F8⟩ := D.def_ 8 (d := hdD "_law_at" sAt) rfl
  obtain ⟨f9, F9⟩ := D.def_ 9 (d := hdD "_law_is_integer" sIsInt) rfl
  obtain ⟨f10, F10⟩ := D.def_ 10 (d := hdD "_law_same" sSame) rfl
  obtain ⟨f11, F11⟩ := D.def_ 11 (d := hdD "_law_inserted" sLInserted) rfl
  obtain ⟨f12, F12⟩ := D.def_ 12 (d := hdD "_law_forces" sLForces) rfl
  obtain ⟨f13, F13⟩ := D.def_ 13 (d := hdD "_law_changes" sLChanges) rfl
  obtain ⟨f14, F14⟩ := D.def_ 14 (d := hdD "_law_row" sLRow) rfl
  obtain ⟨f15, F15⟩ := D.def_ 15 (d := hdD "_law_last" sLLast) rfl
  obtain ⟨f16, F16⟩ := D.def_ 16 (d := hdD "_law_modules" sLModules) rfl
  obtain ⟨f17, F17⟩ := D.def_ 17 (d := hdD "_law_letters" sLLetters) rfl
  obtain ⟨f18, F18⟩ := D.def_ 18 (d := hdD "_law_deed" sLDeed) rfl
  obtain ⟨f19, F19⟩ := D.def_ 19 (d := hdD "_law_visible" sLVisible) rfl
  obtain ⟨f20, F20⟩ := D.def_ 20 (d := hdD "_law_triples" sLTriples) rfl
  obtain ⟨f21, F21⟩ := D.def_ 21 (d := hdD "_law_rows_of" sLRowsOf) rfl
  obtain ⟨f22, F22⟩ := D.def_ 22 (d := hdD "_law_deeds" sLDeeds) rfl
  obtain ⟨f23, F23⟩ := D.def_ 23 (d := hdD "_law_marks" sLMarks) rfl
  obtain ⟨f24, F24⟩ := D.def_ 24 (d := hdD "_law_stands" sLStands) rfl
  obtain ⟨f25, F25⟩ := D.def_ 25 (d := hdD "law" sLaw) rfl
  have hL := glo 21 "law" rfl
  have e := hfa.symm.trans hL
  cases e
  have TX : Txt K mg := { range := fre 22 _ rfl, len := fre 23 _ rfl, min := fre 24 _ rfl, max := fre 25 _ rfl, int := fre 26 _ rfl, isinstance := fre 27 _ rfl, list := fre 28 _ rfl, tuple := fre 29 _ rfl, sorted := fre 30 _ rfl, enumerate := fre 31 _ rfl, zip := fre 32 _ rfl, bool := fre 33 _ rfl, str := fre 34 _ rfl, rep := He.int_ok X G (D.fact 35 (f := .int "REPLICAS" 8) rfl) }
  have Td : TD K (He.ga K "Deeds") := ⟨He.cls_ok (D.fact 36 (f := .cls "Deeds") rfl), He.noat_ok (D.fact 38 (f := .noat "Deeds" "rows") rfl)⟩
  have Mk0 := He.mkr_ok (D.fact 37 (f := .mkr "Deeds") rfl)
  have MA := He.meth_ok (D.fact 39 (f := .meth "Deeds" "add") rfl)
  have MF := He.meth_ok (D.fact 40 (f := .meth "Deeds" "forces") rfl)
  have MC := He.meth_ok (D.fact 41 (f := .meth "Deeds" "changes") rfl)
  have MR := He.meth_ok (D.fact 42 (f := .meth "Deeds" "row") rfl)
  have b := FunD.bindsA (ps := ["_law_script"]) F25 fun _ _ _ _ _ _ us hl => match us, hl with | [_], _ => rfl
  have ne : (He.cT K ("Deeds", some "row")).2 ≠ (He.cT K ("_law_row", none)).2 := by
    have z := c.more
    unfold exK at z
    simpa using z
  have hmem : ∀ p ∈ tf.map (He.cT K), ∃ q ∈ tf, He.cT K q = p := fun p hp => List.mem_map.mp hp
  refine ⟨f25, tf.map (He.cT K), spLaw K [((He.cT K ("Deeds", some "row")).2, qRow), ((He.cT K ("_law_row", none)).2, qLRow)], fun p hp => ?_, fun p hp => ?_, fun p hp => ?_, fun s v => b s [v] rfl, fun H a ns hl _ hTb hS => ?_, fun base hb hns hTab => ?_⟩
  · obtain ⟨q, hq, rfl⟩ := hmem p hp
    exact c.empty q hq
  · obtain ⟨q, hq, rfl⟩ := hmem p hp
    exact c.out q hq
  · obtain ⟨q, hq, rfl⟩ := hmem p hp
    exact PySem.W.codeHd_of_K X (c.hd q hq)
  · refine ⟨a, ns, rfl, hS, hl, fun p hp => ?_, fun _ => rfl⟩
    rcases List.mem_cons.mp hp with q | hp
    · subst q
      exact TabS.nil (hTb _ (List.mem_map.mpr ⟨("Deeds", some "row"), List.mem_cons_self, rfl⟩))
    · have q := List.mem_singleton.mp hp
      subst q
      exact TabS.nil (hTb _ (List.mem_map.mpr ⟨("_law_row", none), List.mem_cons_of_mem _ List.mem_cons_self, rfl⟩))
  · have TB1 := hTab _ (List.mem_map.mpr ⟨("Deeds", some "row"), List.mem_cons_self, rfl⟩)
    have TB2 := hTab _ (List.mem_map.mpr ⟨("_law_row", none), List.mem_cons_of_mem _ List.mem_cons_self, rfl⟩)
    have G5 : Fun K "row" "Deeds.row" sDRow (He.fAd K ("Deeds", some "row")) f5 := He5.fun_of (kws := []) F5
    have G14 : Fun K "_law_row" "_law_row" sLRow (He.fAd K ("_law_row", none)) f14 := He5.fun_of (kws := []) F14
    have c5 := code_of (p := ("Deeds", some "row")) G5
    have c14 := code_of (p := ("_law_row", none)) G14
    have G : ∀ {x q : Str} {st : Stmt} {f : Addr} {fd : FuncData}, FunD K x q (defArgs st) (defBody st) (defScope st) [] [] f fd → Fun K x q st f fd := fun F => He5.fun_of (kws := []) F
    have C0 := cal_ins (P := PR) (w := w) (base := base) (G F0) (glo 0 _ rfl) TX
    have K1 := mak_deeds (P := PR) (w := w) (base := base) (G F1) Mk0 (glo 1 _ rfl) TX Td
    have M2 := met_add (P := PR) (w := w) (mg := mg) (base := base) (G F2) MA Td
    have M3 := met_forces (P := PR) (w := w) (mg := mg) (base := base) (G F3) MF TX Td
    have M4 := met_changes (P := PR) (w := w) (mg := mg) (base := base) (G F4) MC TX Td M3
    have hm1 : ((He.cT K ("Deeds", some "row")).2, qRow) ∈ [((He.cT K ("Deeds", some "row")).2, qRow), ((He.cT K ("_law_row", none)).2, qLRow)] := List.mem_cons_self
    have hm2 : ((He.cT K ("_law_row", none)).2, qLRow) ∈ [((He.cT K ("Deeds", some "row")).2, qRow), ((He.cT K ("_law_row", none)).2, qLRow)] := List.mem_cons_of_mem _ List.mem_cons_self
    have hu1 : ∀ q ∈ [((He.cT K ("Deeds", some "row")).2, qRow), ((He.cT K ("_law_row", none)).2, qLRow)], q.1 = (He.cT K ("Deeds", some "row")).2 → q.2 = qRow := fun q hq e => by
      rcases List.mem_cons.mp hq with z | z
      · rw [z]
      · rw [List.mem_singleton.mp z] at e
        exact absurd e.symm ne
    have hu2 : ∀ q ∈ [((He.cT K ("Deeds", some "row")).2, qRow), ((He.cT K ("_law_row", none)).2, qLRow)], q.1 = (He.cT K ("_law_row", none)).2 → q.2 = qLRow := fun q hq e => by
      rcases List.mem_cons.mp hq with z | z
      · rw [z] at e
        exact absurd e ne
      · rw [List.mem_singleton.mp z]
    have M5 := met_row (P := PR) (w := w) (G F5) c5 TB1 hm1 hu1 MR TX Td M4 C0
    have C6 := cal_mix (P := PR) (w := w) (base := base) (G F6) (glo 2 _ rfl) TX
    have C7 := cal_draws (P := PR) (w := w) (base := base) (G F7) (glo 3 _ rfl) TX C6
    have C8 := cal_at (P := PR) (w := w) (base := base) (G F8) (glo 4 _ rfl) TX C6
    have C9 := cal_isint (P := PR) (w := w) (base := base) (G F9) (glo 5 _ rfl) TX
    have C10 := cal_same (P := PR) (w := w) (base := base) (G F10) (glo 6 _ rfl) TX C9 3
    have C11 := cal_lins (P := PR) (w := w) (base := base) (G F11) (glo 7 _ rfl) TX
    have C12 := cal_lforces (P := PR) (w := w) (base := base) (G F12) (glo 8 _ rfl) TX
    have C13 := cal_lchanges (P := PR) (w := w) (base := base) (G F13) (glo 9 _ rfl) TX C12
    have C14 := cal_lrow (P := PR) (w := w) (G F14) (glo 10 _ rfl) c14 TB2 hm2 hu2 TX C13 C11
    have C15 := cal_llast (P := PR) (w := w) (base := base) (G F15) (glo 11 _ rfl) TX
    have C16 := cal_lmods (P := PR) (w := w) (base := base) (G F16) (glo 12 _ rfl)
    have C17 := cal_llet (P := PR) (w := w) (base := base) (G F17) (glo 13 _ rfl) TX C8
    have C18 := cal_ldeed (P := PR) (w := w) (base := base) (G F18) (glo 14 _ rfl) TX C8 C16 C14 C15 C17
    have C19 := cal_lvis (P := PR) (w := w) (base := base) (G F19) (glo 15 _ rfl) TX
    have C20 := cal_ltrip (P := PR) (w := w) (base := base) (G F20) (glo 16 _ rfl) TX C8 C18 C19
    have C21 := cal_lrowsof (P := PR) (w := w) (base := base) (G F21) (glo 17 _ rfl) TX
    have C22 := cal_ldeeds (P := PR) (w := w) (base := base) (G F22) (glo 18 _ rfl) K1 M2
    have C23 := cal_lmarks (P := PR) (w := w) (base := base) (G F23) (glo 19 _ rfl) TX M5
    have C24 := cal_lstands (P := PR) (w := w) (base := base) (G F24) (glo 20 _ rfl) TX C13 C11
    exact ok_law (G F25) TX C8 C7 C20 C21 C22 K1 M2 C16 C23 C24 C10 M5
end Q3H
open PySem PySem.W PySem.Calls PyProof.Rows
theorem PySem.Challenge.cw_quillrun_k03_whole_no_deed_moves_a_chara_holds : PySem.Challenge.rw_quillrun_k03_whole_no_deed_moves_a_chara.Holds := by
  w_on; o_law
  refine HandSHeadRun.head_any (r := OpenLaw.row PySem.Challenge.rw_quillrun_k03_whole_no_deed_moves_a_chara) (q := view (OpenLaw.row PySem.Challenge.rw_quillrun_k03_whole_no_deed_moves_a_chara).prog [25]) (H := Q3H.hk) (ob := Q3H.ob) (M := 2000)
    (loose := ["_wall", "REPLICAS", "inserted", "Deeds", "_law_mix", "_law_draws", "_law_at", "_law_is_integer", "_law_same", "_law_inserted", "_law_forces", "_law_changes", "_law_row", "_law_last", "_law_modules", "_law_letters", "_law_deed", "_law_visible", "_law_triples", "_law_rows_of", "_law_deeds", "_law_marks", "_law_stands"])
    (d := HandSHeadRun.topDef (OpenLaw.row PySem.Challenge.rw_quillrun_k03_whole_no_deed_moves_a_chara).prog 25) (kwd := []) Q3H.ob_eq
    (by kernel_rfl) (fun s => by kernel_rfl) Q3H.run (by kernel_rfl) (by kernel_rfl) (by kernel_rfl) (by rfl) (by first | assumption | decide +kernel) (by decide +kernel) ⟨rfl, rfl, rfl, rfl, rfl, by decide +kernel⟩ ?hw ?hc
  case hw => w_witness2
  case hc =>
    refine LamX.walk_ofTsE (l := PySem.Challenge.rw_quillrun_k03_whole_no_deed_moves_a_chara) (n := 63) (k := 6) (x := "_law_script") (CX := fun _ => L2.CX0) rfl (by decide) (by kernel_rfl) ⟨rfl, by decide, by decide⟩ ?F (fun _ _ _ _ _ z => z)
    intro w mg fa h Y G hmg0
    obtain ⟨K, KX, c⟩ := Y
    have hmg : mg ("law" : PySem.Str) = some (.ref fa) := by
      have e : (HandSHeadRun.topDef (OpenLaw.row PySem.Challenge.rw_quillrun_k03_whole_no_deed_moves_a_chara).prog 25).name = ("law" : PySem.Str) := by kernel_rfl
      rw [← e]
      exact hmg0
    exact ⟨K, KX, Q3H.facts KX G hmg c⟩

