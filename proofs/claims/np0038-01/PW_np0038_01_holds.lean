import PyProof.Rows.All
import Wide.All
import OpenK.AllK
import Wide.FinOn
import Lean
import PySem.Challenge.RW_np0038_01
set_option Elab.async false
open PySem PySem.W PyProof.Rows
local macro_rules | `(tactic| walk_at "ite") => `(tactic| k_extra "ite @")
local macro_rules | `(tactic| walk_at "call builtin:str.split") => `(tactic| k_extra "call builtin:str.split @")
local macro_rules | `(tactic| walk_at "subscriptTail Name Slice ref ref") => `(tactic| k_extra "subscriptTail Name Slice ref ref @")
local macro_rules | `(tactic| walk_at "call builtin:list.append") => `(tactic| k_extra "call builtin:list.append @")
local macro_rules | `(tactic| walk_at "call ref") => `(tactic| k_extra "call ref @")
local macro_rules | `(tactic| walk_at "call builtin:str.join") => `(tactic| k_extra "call builtin:str.join @")
local macro_rules | `(tactic| walk_at "call builtin:len") => `(tactic| k_extra "call builtin:len @")
local macro_rules | `(tactic| walk_at "subscriptTail Name Name ref int") => `(tactic| k_extra "subscriptTail Name Name ref int @")
local macro_rules | `(tactic| walk_at "binaryOp Mult ref int") => `(tactic| k_extra "binaryOp Mult ref int @")
local macro_rules | `(tactic| walk_at "binaryOp Add ref ref") => `(tactic| k_extra "binaryOp Add ref ref @")
local macro_rules | `(tactic| walk_at "compareOp NotEq ref ref") => `(tactic| k_extra "compareOp NotEq ref ref @")
local macro_rules | `(tactic| walk_at "call builtin:list.pop") => `(tactic| k_extra "call builtin:list.pop @")
local macro_rules | `(tactic| walk_at "getMethod ref") => `(tactic| k_extra "getMethod ref @")
local macro_rules | `(tactic| k_updF) => `(tactic| k_extra "k_updF @")
local macro_rules | `(tactic| walk_at "subscriptTail Name Call ref int") => `(tactic| k_extra "subscriptTail Name Call ref int @")
local macro_rules | `(tactic| walk_at "subscriptTail List cons Call ref int") => `(tactic| k_extra "subscriptTail List cons Call ref int @")
local macro_rules | `(tactic| walk_at "exec If") => `(tactic| k_extra "exec If @")
local macro_rules | `(tactic| walk_at "subscriptTail") => `(tactic| k_extra "subscriptTail @")
local macro_rules | `(tactic| walk_at "compareOp NotIn str ref") => `(tactic| k_extra "compareOp NotIn str ref @")
local macro_rules | `(tactic| walk_at "exec For Name Tuple cons cons nil") => `(tactic| k_extra "exec For Name Tuple cons cons nil @")
local macro_rules | `(tactic| walk_at "exec For Name Tuple cons nil") => `(tactic| k_extra "exec For Name Tuple cons nil @")
local macro_rules | `(tactic| walk_at "exec Raise some none") => `(tactic| k_extra "exec Raise some none @")
local macro_rules | `(tactic| walk_at "RaiseAt") => `(tactic| k_extra "RaiseAt @")
local macro_rules | `(tactic| walk_at "leaving ref") => `(tactic| k_extra "leaving ref @")
local macro_rules | `(tactic| walk_at "noteFrame ref") => `(tactic| k_extra "noteFrame ref @")
local macro_rules | `(tactic| walk_at "exec Assign") => `(tactic| k_extra "exec Assign @")
local macro_rules | `(tactic| k_all) => `(tactic| k_extra "k_all @")
section
open PySem PySem.W PyProof.Rows PySem.Builtin.Str
namespace Mine
noncomputable def S (l : List Nat) : Str := ⟨l.toArray⟩
noncomputable def Lx (x : Str) : List Nat := x.cps.toList
theorem L_S (l : List Nat) : Lx (S l) = l := rfl
theorem S_L (x : Str) : S (Lx x) = x := by cases x; rfl
theorem len_L (x : Str) : (Lx x).length = x.length := by cases x; simp [Lx, Str.length]
theorem len_S (l : List Nat) : (S l).length = l.length := by simp [S, Str.length]
theorem ext_L {x y : Str} (h : Lx x = Lx y) : x = y := by rw [← S_L x, ← S_L y, h]
theorem S_inj {a b : List Nat} (h : S a = S b) : a = b := congrArg Lx h
theorem beq_L (x y : Str) : (x == y) = decide (Lx x = Lx y) := by
  rw [Bool.eq_iff_iff, beq_iff_eq, decide_eq_true_eq]
  exact ⟨fun h => by rw [h], ext_L⟩
theorem app_S (x y : Str) : x ++ y = S (Lx x ++ Lx y) := ext_L (by cases x; cases y; simp [Lx, S, Str.cps_append])
theorem slice_of {x : Str} {l u : Option Int} {a b : Nat} (hab : a ≤ b) (hb : b ≤ x.length)
    (e : strSliceIndices l u 1 x.length = strSliceIndices (some (a : Int)) (some (b : Int)) 1 x.length) : Txt.slice x l u = S (((Lx x).drop a).take (b - a)) := by
  unfold Txt.slice
  rw [e]
  split
  · rename_i h
    rw [StrLaws.strSliceIndices_plain hab hb] at h
    simp at h
    have ha : a = 0 := by omega
    have hb' : b = x.length := by omega
    subst ha; subst hb'
    refine ext_L ?_
    rw [L_S, ← len_L]
    simp
  · rw [StrLaws.sliced_plain x hab hb]
    rfl
noncomputable def clipN (v : Option Int) (d : Int) (n : Nat) : Int := match v with
  | none => d
  | some i => max 0 (min (if i < 0 then i + n else i) n)
theorem idx_eq (l u : Option Int) (n : Nat) : strSliceIndices l u 1 n = sliceRange (clipN l 0 n) (clipN u n n) 1 := by
  unfold strSliceIndices
  cases l <;> cases u <;> simp [clipN]
theorem clip_pos {i : Int} (h : 0 ≤ i) (d : Int) (n : Nat) : clipN (some i) d n = (min i.toNat n : Nat) := by
  simp only [clipN]
  rw [if_neg (Int.not_lt.mpr h)]
  obtain ⟨m, rfl⟩ := Int.eq_ofNat_of_zero_le h
  rw [Int.toNat_natCast]
  rcases Nat.le_total m n with hm | hm
  · rw [Nat.min_eq_left hm, Int.min_eq_left (Int.ofNat_le.mpr hm), Int.max_eq_right (Int.natCast_nonneg _)]
  · rw [Nat.min_eq_right hm, Int.min_eq_right (Int.ofNat_le.mpr hm), Int.max_eq_right (Int.natCast_nonneg _)]
theorem clip_nat {b n : Nat} (h : b ≤ n) (d : Int) : clipN (some (b : Int)) d n = b := by
  rw [clip_pos (Int.natCast_nonneg b), Int.toNat_natCast, Nat.min_eq_left h]
theorem slice_gen {x : Str} {l u : Option Int} {a b : Nat} (hab : a ≤ b) (hb : b ≤ x.length) (hl : clipN l 0 x.length = a) (hu : clipN u x.length x.length = b) :
    Txt.slice x l u = S (((Lx x).drop a).take (b - a)) := by
  refine slice_of hab hb ?_
  rw [idx_eq, idx_eq, hl, hu]
  rw [clip_nat (Nat.le_trans hab hb), clip_nat hb]
theorem slice_upto (x : Str) {j : Int} (h : 0 ≤ j) : Txt.slice x none (some j) = S ((Lx x).take j.toNat) := by
  rw [slice_gen (a := 0) (b := min j.toNat x.length) (Nat.zero_le _) (Nat.min_le_right _ _) rfl (clip_pos h _ _)]
  congr 1
  rw [List.drop_zero, Nat.sub_zero, ← len_L, ← List.take_eq_take_min]
theorem slice_from (x : Str) {i : Int} (h : 0 ≤ i) : Txt.slice x (some i) none = S ((Lx x).drop i.toNat) := by
  rw [slice_gen (a := min i.toNat x.length) (b := x.length) (Nat.min_le_right _ _) (Nat.le_refl _) (clip_pos h _ _) rfl]
  congr 1
  have hl := len_L x
  rw [List.take_of_length_le (by simp; omega)]
  by_cases hi : i.toNat ≤ x.length
  · rw [Nat.min_eq_left hi]
  · rw [Nat.min_eq_right (by omega), List.drop_eq_nil_of_le (by omega), List.drop_eq_nil_of_le (by omega)]
theorem slice_last (x : Str) : Txt.slice x (some (-1)) none = S ((Lx x).drop ((Lx x).length - 1)) := by
  rw [slice_gen (a := x.length - 1) (b := x.length) (by omega) (by omega) (by simp only [clipN]; split <;> omega) (by simp [clipN])]
  congr 1
  have hl := len_L x
  rw [List.take_of_length_le (by simp; omega), hl]
theorem slice_mid (x : Str) {i j : Int} (hi : 0 ≤ i) (hj : 0 ≤ j) : Txt.slice x (some i) (some j) = S (((Lx x).drop i.toNat).take (j.toNat - i.toNat)) := by
  have hl := len_L x
  by_cases hij : min i.toNat x.length ≤ min j.toNat x.length
  · rw [slice_gen hij (Nat.min_le_right _ _) (clip_pos hi _ _) (clip_pos hj _ _)]
    congr 1
    by_cases h1 : i.toNat ≤ x.length
    · rw [Nat.min_eq_left h1, List.take_eq_take_iff, List.length_drop, hl, Nat.sub_min_sub_right, Nat.sub_min_sub_right, Nat.min_assoc, Nat.min_self]
    · have h2 := Nat.le_of_not_le h1
      rw [List.drop_eq_nil_of_le (by rw [Nat.min_eq_right h2, hl]; exact Nat.le_refl _), List.drop_eq_nil_of_le (by rw [hl]; exact h2), List.take_nil, List.take_nil]
  · have hji : j.toNat ≤ i.toNat := Nat.le_of_not_le fun hc => hij (Nat.le_min.mpr ⟨Nat.le_trans (Nat.min_le_left _ _) hc, Nat.min_le_right _ _⟩)
    have e : Txt.slice x (some i) (some j) = S (((Lx x).drop (min i.toNat x.length)).take (min i.toNat x.length - min i.toNat x.length)) := by
      refine slice_of (Nat.le_refl _) (Nat.min_le_right _ _) ?_
      rw [idx_eq, idx_eq, clip_pos hi, clip_pos hj, clip_nat (Nat.min_le_right _ _), clip_nat (Nat.min_le_right _ _)]
      generalize min i.toNat x.length = a at hij ⊢
      generalize min j.toNat x.length = b at hij ⊢
      unfold sliceRange
      have n1 : ¬ ((a : Int) < (b : Int)) := fun h => hij (Nat.le_of_lt (Int.ofNat_lt.mp h))
      have n2 : ¬ ((a : Int) < (a : Int)) := Int.lt_irrefl _
      have p1 : (1 : Int) > 0 := by decide
      simp only [p1, if_true, n1, n2, if_false]
    rw [e, Nat.sub_self, Nat.sub_eq_zero_of_le hji, List.take_zero, List.take_zero]
theorem near_pos {k : Int} {n m : Nat} (e : k = (m : Int) + 1) (h : m + 1 < n) : 0 ≤ k - 1 ∧ k - 1 < n ∧ 0 ≤ k ∧ k < n ∧ (k - 1).toNat = k.toNat - 1 ∧ k.toNat = m + 1 := by
  have e1 : k - 1 = (m : Int) := by rw [e, Int.add_sub_cancel]
  have e2 : k = ((m + 1 : Nat) : Int) := e
  rw [e1, e2]
  exact ⟨Int.natCast_nonneg _, Int.ofNat_lt.mpr (Nat.lt_of_succ_lt h), Int.natCast_nonneg _, Int.ofNat_lt.mpr h, rfl, rfl⟩
theorem mem_tw {p : Nat → Bool} : ∀ {l : List Nat} {c : Nat}, c ∈ l.takeWhile p → p c = true
  | [], _, h => by cases h
  | d :: r, c, h => by
    rw [List.takeWhile_cons] at h
    split at h
    · rename_i hd
      rcases List.mem_cons.mp h with rfl | h
      · exact hd
      · exact mem_tw h
    · cases h
theorem tw_le (p : Nat → Bool) : ∀ l : List Nat, (l.takeWhile p).length ≤ l.length
  | [] => Nat.le_refl _
  | d :: r => by
    rw [List.takeWhile_cons]
    split
    · simpa using tw_le p r
    · simp
theorem charAt_eq (x : Str) {i : Int} (h0 : 0 ≤ i) (h1 : i < x.length) : Txt.charAt x i = (Lx x)[i.toNat]? := by
  unfold Txt.charAt
  rw [seqIndex_of h0 h1]
  simp [Lx]
theorem item_S (x : Str) {i : Int} (h0 : 0 ≤ i) (h1 : i < x.length) : Txt.item x i = S [(Lx x).getD i.toNat 0] := by
  unfold Txt.item
  rw [charAt_eq x h0 h1]
  rw [List.getD_eq_getElem?_getD]
  rfl
theorem item_beq (x : Str) {i : Int} {c : Nat} (h0 : 0 ≤ i) (h1 : i < x.length) : (Txt.item x i == S [c]) = decide ((Lx x)[i.toNat]? = some c) := by
  rw [item_S x h0 h1, beq_L, L_S, L_S]
  have hl := len_L x
  have : i.toNat < (Lx x).length := by omega
  simp [List.getD_eq_getElem?_getD, List.getElem?_eq_getElem this]
theorem contains_one (x : Str) (c : Nat) : Txt.contains x (S [c]) = decide (c ∈ Lx x) := StrLaws.found_one x c
theorem rfind_some {x : Str} {c : Nat} {i : Nat} (h1 : (Lx x)[i]? = some c) (h2 : ∀ k, i < k → (Lx x)[k]? ≠ some c) : Txt.rfind x (S [c]) = i := by
  unfold Txt.rfind
  rcases StrLaws.last_spec x (S [c]) with ⟨e, h⟩ | ⟨j, e, hj, hk⟩
  · exact absurd ((StrLaws.subAt_one x c i).mpr h1) (h i)
  · have hj' := (StrLaws.subAt_one x c j).mp hj
    have : i = j := by
      rcases Nat.lt_trichotomy i j with h | h | h
      · exact absurd hj' (h2 j h)
      · exact h
      · exact absurd ((StrLaws.subAt_one x c i).mpr h1) (hk i h)
    rw [e, this]
theorem rfind_none {x : Str} {c : Nat} (h : c ∉ Lx x) : Txt.rfind x (S [c]) = -1 := by
  unfold Txt.rfind
  rcases StrLaws.last_spec x (S [c]) with ⟨e, _⟩ | ⟨j, e, hj, hk⟩
  · rw [e]
  · have hj' := (StrLaws.subAt_one x c j).mp hj
    exact absurd (List.mem_of_getElem? hj') h
/-- the tail behind the last c -/
noncomputable def tw (c : Nat) (l : List Nat) : List Nat := (l.reverse.takeWhile (· != c)).reverse
theorem tw_len (c : Nat) (l : List Nat) : (tw c l).length ≤ l.length := by
  unfold tw
  have := tw_le (· != c) l.reverse
  simpa using this
theorem takeWhile_append_of {p : Nat → Bool} {a b : List Nat} (h : ∀ c ∈ a, p c = true) : (a ++ b).takeWhile p = a ++ b.takeWhile p := by
  induction a with
  | nil => rfl
  | cons x r ih => simp [h x (by simp), ih fun c hc => h c (by simp [hc])]
theorem tw_append (c : Nat) (l r : List Nat) (h : c ∉ r) : tw c (l ++ r) = tw c l ++ r := by
  unfold tw
  rw [List.reverse_append, takeWhile_append_of, List.reverse_append, List.reverse_reverse]
  intro d hd
  simp at hd ⊢
  rintro rfl
  exact h hd
theorem tw_snoc (c : Nat) (l : List Nat) : tw c (l ++ [c]) = [] := by
  unfold tw
  simp
theorem tw_cut (c : Nat) (l r : List Nat) (h : c ∉ r) : tw c (l ++ c :: r) = r := by
  have : l ++ c :: r = (l ++ [c]) ++ r := by simp
  rw [this, tw_append _ _ _ h, tw_snoc, List.nil_append]
theorem tw_free {c : Nat} {l : List Nat} (h : c ∉ l) : tw c l = l := by
  have := tw_append c [] l h
  simpa [tw] using this
theorem split_last {c : Nat} {l : List Nat} (h : c ∈ l) : ∃ a, l = a ++ c :: tw c l := by
  induction l with
  | nil => cases h
  | cons d r ih =>
    by_cases hr : c ∈ r
    · obtain ⟨a, ha⟩ := ih hr
      refine ⟨d :: a, ?_⟩
      have : tw c (d :: r) = tw c r := by
        have hnot : c ∉ tw c r := by
          unfold tw
          intro hm
          have := mem_tw (List.mem_reverse.mp hm)
          simp at this
        rw [ha, ← List.cons_append, tw_cut _ _ _ hnot, tw_cut _ _ _ hnot]
      rw [this, List.cons_append, ← ha]
    · have : d = c := by
        rcases List.mem_cons.mp h with e | e
        · exact e.symm
        · exact absurd e hr
      subst this
      refine ⟨[], ?_⟩
      have := tw_cut d [] r hr
      simp at this
      simp [this]
theorem tw_not_mem (c : Nat) (l : List Nat) : c ∉ tw c l := by
  unfold tw
  intro hm
  have := mem_tw (List.mem_reverse.mp hm)
  simp at this
theorem rfind_eq (x : Str) (c : Nat) : Txt.rfind x (S [c]) = (x.length : Int) - 1 - (tw c (Lx x)).length := by
  have hl := len_L x
  by_cases h : c ∈ Lx x
  · obtain ⟨a, ha⟩ := split_last h
    have h1 : (Lx x)[a.length]? = some c := by rw [ha]; simp
    have h2 : ∀ k, a.length < k → (Lx x)[k]? ≠ some c := by
      intro k hk e
      rw [ha] at e
      have : (a ++ c :: tw c (Lx x))[k]? = (tw c (Lx x))[k - a.length - 1]? := by
        rw [List.getElem?_append_right (by omega)]
        have : k - a.length = (k - a.length - 1) + 1 := by omega
        rw [this, List.getElem?_cons_succ]
        simp
      rw [this] at e
      exact tw_not_mem c _ (List.mem_of_getElem? e)
    rw [rfind_some h1 h2]
    have := congrArg List.length ha
    simp at this
    omega
  · rw [rfind_none h, tw_free h]
    omega
theorem strs_inj : ∀ {a b : List Str}, a.map Lx = b.map Lx → a = b
  | [], [], _ => rfl
  | [], _ :: _, h => by cases h
  | _ :: _, [], h => by cases h
  | x :: a, y :: b, h => by
    simp only [List.map_cons, List.cons.injEq] at h
    rw [ext_L h.1, strs_inj h.2]
/-- the parts between the c's -/
noncomputable def cut (c : Nat) : List Nat → List (List Nat)
  | [] => [[]]
  | d :: r => if d = c then [] :: cut c r else match cut c r with
    | [] => [[d]]
    | p :: ps => (d :: p) :: ps
noncomputable def glue (c : Nat) : List (List Nat) → List Nat
  | [] => []
  | [p] => p
  | p :: q :: r => p ++ c :: glue c (q :: r)
theorem cut_ne (c : Nat) : ∀ l, cut c l ≠ []
  | [] => by simp [cut]
  | d :: r => by
    unfold cut
    split
    · simp
    · split <;> simp
theorem cut_free (c : Nat) : ∀ l, ∀ p ∈ cut c l, c ∉ p
  | [], p, h => by simp [cut] at h; simp [h]
  | d :: r, p, h => by
    have ih := cut_free c r
    unfold cut at h
    split at h
    · rcases List.mem_cons.mp h with rfl | h
      · simp
      · exact ih p h
    · rename_i hd
      split at h
      · rename_i e
        exact absurd e (cut_ne c r)
      · rename_i q qs e
        rcases List.mem_cons.mp h with rfl | h
        · rw [e] at ih
          have := ih q (by simp)
          simp [this]
          exact fun e => hd e.symm
        · rw [e] at ih
          exact ih p (by simp [h])
theorem cut_glue (c : Nat) : ∀ l, glue c (cut c l) = l
  | [] => rfl
  | d :: r => by
    have ih := cut_glue c r
    have hn := cut_ne c r
    unfold cut
    split
    · rename_i hd
      subst hd
      cases e : cut d r with
      | nil => exact absurd e hn
      | cons p ps =>
        rw [e] at ih
        simp [glue, ih]
    · split
      · rename_i e
        exact absurd e hn
      · rename_i q qs e
        rw [e] at ih
        cases qs with
        | nil => simp [glue] at ih ⊢; exact ih
        | cons a as => simp [glue] at ih ⊢; exact ih
theorem cut_append (c : Nat) : ∀ (p r : List Nat), c ∉ p → cut c (p ++ c :: r) = p :: cut c r
  | [], r, _ => by simp [cut]
  | d :: p, r, h => by
    have hd : d ≠ c := fun e => h (by simp [e])
    have ih := cut_append c p r (fun hm => h (by simp [hm]))
    simp only [List.cons_append]
    rw [cut, if_neg hd, ih]
theorem cut_none (c : Nat) : ∀ (p : List Nat), c ∉ p → cut c p = [p]
  | [], _ => rfl
  | d :: p, h => by
    have hd : d ≠ c := fun e => h (by simp [e])
    rw [cut, if_neg hd, cut_none c p (fun hm => h (by simp [hm]))]
theorem glue_cut (c : Nat) : ∀ (ps : List (List Nat)), ps ≠ [] → (∀ p ∈ ps, c ∉ p) → cut c (glue c ps) = ps
  | [], h, _ => absurd rfl h
  | [p], _, h => cut_none c p (h p (by simp))
  | p :: q :: r, _, h => by
    show cut c (p ++ c :: glue c (q :: r)) = _
    rw [cut_append c p _ (h p (by simp)), glue_cut c (q :: r) (by simp) (fun x hx => h x (by simp [hx]))]
theorem join_S (c : Nat) : ∀ (xs : List Str), Lx (Str.join (S [c]) xs) = glue c (xs.map Lx)
  | [] => rfl
  | [x] => rfl
  | x :: y :: r => by
    show Lx (x ++ S [c] ++ Str.join (S [c]) (y :: r)) = _
    rw [app_S, L_S, join_S c (y :: r), app_S, L_S, L_S]
    simp [glue]
theorem tjoin_S (c : Nat) (xs : List Str) : Txt.join (S [c]) xs = S (glue c (xs.map Lx)) := by
  refine ext_L ?_
  unfold Txt.join
  rw [StrLaws.glued_eq_join, join_S, L_S]
theorem split_S (x : Str) (c : Nat) : (Txt.split x (S [c])).map Lx = cut c (Lx x) := by
  have h1 := StrLaws.split_free x c
  have h2 := StrLaws.join_split x (S [c])
  have h3 : Txt.split x (S [c]) ≠ [] := by
    unfold Txt.split
    split
    · simp
    · split
      · simp
      · unfold partsBetween
        simp
  have h4 : glue c ((Txt.split x (S [c])).map Lx) = Lx x := by rw [← join_S, h2]
  rw [← h4, glue_cut]
  · simpa using h3
  · intro p hp
    obtain ⟨y, hy, rfl⟩ := List.mem_map.mp hp
    exact h1 y hy
theorem split_eq (x : Str) (c : Nat) : Txt.split x (S [c]) = (cut c (Lx x)).map S := by
  refine strs_inj ?_
  rw [split_S]
  simp [Function.comp_def, L_S]
theorem digits_lit : Str.ofString "0123456789" = S [48, 49, 50, 51, 52, 53, 54, 55, 56, 57] := by decide +kernel
theorem slash_lit : Str.ofString "/" = S [47] := by decide +kernel
theorem tilde_lit : Str.ofString "~" = S [126] := by decide +kernel
theorem dot_lit : Str.ofString "." = S [46] := by decide +kernel
theorem empty_lit : Str.ofString "" = S [] := by decide +kernel
end Mine
end
section
open PySem PySem.W PyProof.Rows
set_option maxRecDepth 100000
set_option maxHeartbeats 200000000
namespace Mine
theorem keep {a b p : Prop} (f : a → b → p) (x : a) (y : b) : p := f x y
noncomputable def hd : Σ' W : Prop, (W → PySem.Challenge.rw_np0038_01.Holds) := by
  refine' ⟨_, fun h => ?main0⟩
  case main0 =>
    refine' keep (p := PySem.Challenge.rw_np0038_01.Holds) (fun _ _ => ?main) ?hl ?hc
    case main =>
      w_on
      refine holds_law (by decide +kernel) fun said => ?_
      k_head
      case hw => w_witness2
    case hc => exact h
    case hl =>
      exact fun w => by kernel_rfl
end Mine
end
section
open PySem PySem.W PyProof.Rows
set_option maxRecDepth 100000
namespace Mine
noncomputable def Ct (f : Addr) (k : Nat) (pre : Prop) (vs : List Value) (R : Tok → Value) : Prop :=
  ∀ (w : World) (mean : ExcName → Option Value) (mg mb : Str → Option Value) (news : List (Addr × Obj)) (dp un : Nat) (gd : Option (List Code)) (cn : Str) (cs : Scope) (a : Addr) (ccd : Value) (cl : List (Str × Addr)) (outer : List Env) (A₀ : Around) (base h₀ : Heap) (L : Addr) (m : Str → Option Value) (s : Shared) (Q E : Value → Shared → Prop),
    Below A₀ base outer h₀ → Fr h₀ L s.heap m → (hd.heap_1 w.params).In h₀ → News h₀ L s.heap news → Top hd.view_1 (looseW hd.view_1 []) mean mg mb h₀ → cs.kind = .function → pre →
    dp + k < recursionLimit → un + 8 * k < cLine → CbRet h₀ L m news s Q R →
    wpAny (model PySem.Challenge.rw_np0038_01.row.prog w) (ktrTop dp un gd cn cs L a ccd cl outer) (call (.ref f) vs) Q E s
end Mine
end
section
open PySem PySem.W PyProof.Rows
namespace Mine

theorem ret_of {h₀ h' : Heap} {L : Addr} {m : Str → Option Value} {news : List (Addr × Obj)} {s : Shared} {Q : Value → Shared → Prop} {tk' : Nat} {R : Tok → Value} {y : Value}
    (hret : ∀ (t : Tok) (h' : Heap) (tk' : Nat), Fr h₀ L h' m → News h₀ L h' news → Q (R t) { s with heap := h', toks := tk' }) (e : ∃ t, y = R t) (F : Fr h₀ L h' m) (N : News h₀ L h' news) :
    Q y { s with heap := h', toks := tk' } := by
  obtain ⟨t, rfl⟩ := e
  exact hret t h' tk' F N
theorem ret_str {x y : Str} {t : Tok} (e : x = y) : ∃ t', Value.str x t = (fun t => Value.str y t) t' := ⟨t, by rw [e]⟩
theorem ret_int {x y : Int} {t : Tok} (e : x = y) : ∃ t', Value.int x t = (fun t => Value.int y t) t' := ⟨t, by rw [e]⟩
theorem ret_bool {x y : Bool} (e : x = y) : ∃ t' : Tok, Value.bool x = (fun _ => Value.bool y) t' := ⟨0, by rw [e]⟩
end Mine
end
section
open PySem PySem.W PyProof.Rows PySem.Calls PyProof.V PySem.Spec
namespace Mine
section
variable {prog : Program} {w : World} {A : Around} {E : Value → Shared → Prop} {s : Shared} {env : Env} {h₀ : Heap} {x : Str} {body : List Stmt} {Q : Flow → Shared → Prop}
noncomputable def LpS {σ : Type} (Led : σ → List (Addr × Obj)) (ps : σ → List (Str × Value)) (x : Str) (stored : List Str) (m₀ : Str → Option Value) (P : Nat → σ → Prop) (i : Nat) (m : Str → Option Value) (nx : List (Addr × Obj)) : Prop :=
  ∃ c : σ, nx = Led c ∧ (∀ p ∈ ps c, m p.1 = some p.2) ∧ (∀ z, z ≠ x → (∀ p ∈ ps c, z ≠ p.1) → stored.contains z = false → m z = m₀ z) ∧ P i c
/-- a for over a made list of texts: any state, any addresses -/
theorem iter_strs {σ : Type} {l : Addr} {vs : List Value} {xs : List Str} {nn : Nat} {m₀ : Str → Option Value} (Led : σ → List (Addr × Obj)) (ps : σ → List (Str × Value)) (stored : List Str) (P : Nat → σ → Prop) (c₀ : σ)
    (hh : A.handled = none) (hl : ∀ c, (l, listOf vs.toArray nn) ∈ Led c) (hi : StrsAre vs xs) (F : Fr h₀ env.locals s.heap m₀) (N : News h₀ env.locals s.heap (Led c₀)) (hk : ∀ p ∈ ps c₀, m₀ p.1 = some p.2) (hp : P 0 c₀)
    (turn : ∀ i z t (c : σ) (u : Str → Option Value) h tk own, xs[i]? = some z → OwnOff own ((Led c).map (·.1)) → P i c →
      Fr h₀ env.locals h (fun y => if y = x then some (.str z t) else kstB (fun z => if stored.contains z then u z else m₀ z) (ps c) y) → News h₀ env.locals h (Led c ++ own) →
      wpAny (model prog w) A (execs body env) (InvPostG h₀ env.locals (LpS Led ps x stored m₀ P (i + 1)) own { s with heap := h, toks := tk } Q) E { s with heap := h, toks := tk })
    (done : ∀ (c : σ) (u : Str → Option Value) h tk, P xs.length c → Fr h₀ env.locals h (fun y => if y = x then u y else kstB (fun z => if stored.contains z then u z else m₀ z) (ps c) y) → News h₀ env.locals h (Led c) → Q .next { s with heap := h, toks := tk }) :
    wpAny (model prog w) A (pyIter (.ref l)) (fun it s₂ => LoopAtV prog w A h₀ env x body Q E it s₂) E s := by
  have hl0 := hl c₀
  have hol : s.heap.get? l = some (listOf vs.toArray nn) := (N _ hl0).1
  have hls : s.heap.IsList l vs.toArray := ⟨_, hol, rfl, nn, rfl⟩
  have hne : l ≠ s.heap.objs.size := Nat.ne_of_lt (Heap.lt_size hol)
  refine wpAny_pyIter_list hls ?_
  have W := Walks.list (prog := prog) (w := w) hh s.heap.objs.size l hne vs.toArray
  have hlen : vs.toArray.size = xs.length := by simp [hi.length]
  rw [hlen] at W
  refine ⟨_, _, _, xs.length, _, _, m₀, Led c₀, LpS Led ps x stored m₀ P, rfl, W, ?_, ?_, ?_, ⟨⟨_, Heap.get?_push_size _ rfl, rfl, rfl⟩, hls.at fun o e => Heap.get?_push_of_some _ e⟩, F.push _, (fun p hp => ⟨Heap.get?_push_of_some _ (N p hp).1, (N p hp).2⟩), ⟨c₀, rfl, hk, fun _ _ _ _ => rfl, hp⟩, ?_, ?_⟩
  · intro hm
    rcases List.mem_cons.mp hm with e | hm
    · exact absurd F.ns.lt (e ▸ Nat.lt_irrefl _)
    · exact (N _ hl0).2.1 ((List.mem_singleton.mp hm).symm)
  · intro b hb
    rw [List.mem_singleton.mp hb]
    exact next_is_new F
  · intro p hp hI
    exact absurd (Heap.lt_size (N p hp).1) ((List.mem_singleton.mp hI) ▸ Nat.lt_irrefl _)
  · rintro i v m₁ news₁ s₁ own ⟨hh', tk', rfl⟩ hin hP ⟨c, rfl, h1, h2, hJ⟩ hoff hown hget hfp hst F₁ N₁
    have hI0 : h₀.get? s.heap.objs.size = none := next_is_new F
    obtain ⟨⟨oI, hoI, _⟩, _⟩ := id hst
    have hIown : (s.heap.objs.size, oI) ∈ own := hfp _ (List.mem_cons.mpr (.inl rfl)) hI0 _ hoI
    have hsep : OwnOff (own.filter fun p => decide (p.1 = s.heap.objs.size)) ((Led c).map (·.1)) := by
      intro p hp b hb e
      obtain ⟨q, hq, rfl⟩ := List.mem_map.mp hb
      have h3 : p.1 = s.heap.objs.size := by simpa using (List.mem_filter.mp hp).2
      exact hoff q hq (List.mem_singleton.mpr (by rw [← e, h3]))
    have hlt' : i < xs.length := hin
    obtain ⟨t, hx⟩ := StrsAre.get hi i xs[i] (by simp [hlt'])
    have hv : v = .str xs[i] t := by
      have hP' : vs[i]? = some v := by simpa using hP
      rw [hx] at hP'; exact (Option.some.inj hP').symm
    subst hv
    have N₂ : News h₀ env.locals hh' (Led c ++ own.filter fun p => decide (p.1 = s.heap.objs.size)) := fun p hp => N₁ p ((List.mem_append.mp hp).elim (fun h => List.mem_append.mpr (.inr h)) fun h => List.mem_append.mpr (.inl ((List.mem_filter.mp h).1)))
    have hlo : hh'.get? l = some (listOf vs.toArray nn) := (N₁ _ (List.mem_append.mpr (.inr (hl c)))).1
    refine wpAny_mono (turn i xs[i] t c m₁ hh' tk' _ (by simp [hlt']) hsep hJ (kst_fr h1 h2 F₁) N₂) (fun f s₂ p => ?_) fun _ _ e => e
    have fin : InvEndG h₀ env.locals (LpS Led ps x stored m₀ P (i + 1)) (own.filter fun p => decide (p.1 = s.heap.objs.size)) { s with heap := hh', toks := tk' } s₂ →
        LoopStepU h₀ env.locals [s.heap.objs.size] own (LpS Led ps x stored m₀ P (i + 1)) { s with heap := hh', toks := tk' } .next s₂ := by
      rintro ⟨h', tk, m', news', nx, e, F', N', hn, ho, ha, hm⟩
      have hm' := hm
      obtain ⟨c', rfl, _, _, _⟩ := hm'
      refine ⟨rfl, h', tk, m', Led c', e, F', fun p hp => ?_, fun p hp hq => ?_, hm⟩
      · rcases List.mem_append.mp hp with h | h
        · by_cases hI : p.1 = s.heap.objs.size
          · exact N' p (ho p (List.mem_filter.mpr ⟨h, by simpa using hI⟩))
          · have e1 : p.1 = l := by
              rcases List.mem_cons.mp (hown p h) with e2 | e2
              · exact absurd e2 hI
              · exact List.mem_singleton.mp e2
            have e2 : hh'.get? p.1 = some p.2 := hget p h
            rw [e1, hlo] at e2
            have e3 : p = (l, listOf vs.toArray nn) := Prod.ext e1 (Option.some.inj e2).symm
            rw [e3]
            exact N' _ (hn _ (hl c'))
        · exact N' p (hn p h)
      · exact ha _ (List.mem_filter.mpr ⟨hIown, by simp⟩) p.1 (List.mem_map.mpr ⟨p, hp, rfl⟩) (List.mem_singleton.mp hq).symm
    cases f with
    | ret v => exact .ret p
    | brk => exact .brk p
    | next => exact .next (fin p)
    | cont => exact .cont (fin p)
  · rintro h' tk m' news' F' N' _ ⟨c, rfl, h1, h2, hJ⟩
    exact done c m' h' tk hJ (kst_frOut h1 h2 F') N'
theorem lp_end {σ : Type} {Led : σ → List (Addr × Obj)} {ps : σ → List (Str × Value)} {stored : List Str} {m₀ : Str → Option Value} {P : Nat → σ → Prop} {i : Nat} (c : σ) {L : Addr} {m' : Str → Option Value} {own news' : List (Addr × Obj)} {s₁ : Shared} {h' : Heap} {tk : Nat}
    (F : Fr h₀ L h' m') (N : News h₀ L h' news') (hn : ∀ p ∈ Led c, p ∈ news') (ho : ∀ p ∈ own, p ∈ news') (ha : OwnOff own ((Led c).map (·.1))) (hk : ∀ p ∈ ps c, m' p.1 = some p.2) (hr : ∀ z, z ≠ x → (∀ p ∈ ps c, z ≠ p.1) → stored.contains z = false → m' z = m₀ z) (hp : P i c) :
    InvEndG h₀ L (LpS Led ps x stored m₀ P i) own s₁ { s₁ with heap := h', toks := tk } := InvEndG.intro F N ⟨c, rfl, hk, hr, hp⟩ ha hn ho
end
theorem off_of {d : Addr} {l : List (Addr × Obj)} (h : AllLt d l) : ∀ p ∈ l, p.1 ≠ d := fun p hp => Nat.ne_of_lt (kst_ltOf h p hp)
end Mine
end
section
open PySem PySem.W PyProof.Rows PySem.Calls PyProof.V PySem.Spec
namespace Mine
section
variable {prog : Program} {w : World} {A : Around} {E : Value → Shared → Prop} {s : Shared} {h₀ : Heap} {L l : Addr} {m : Str → Option Value} {news : List (Addr × Obj)} {x y : Str} {t u : Tok} {Q : Value → Shared → Prop}
theorem split_K {c : Nat} (hy : y = S [c]) (F : Fr h₀ L s.heap m) (N : News h₀ L s.heap news) (hsz : x.length ≤ 100000)
    (h : ∀ D vs h' k, StrsAre vs ((cut c (Lx x)).map S) → Fr h₀ L h' m → News h₀ L h' ((D, listOf (List.toArray vs) 0) :: news) → AllLt D news → Q (.ref D) { s with heap := h', toks := k }) :
    wpAny (model prog w) A (call (.builtin "str.split") [.str x t, .str y u]) Q E s := by
  subst hy
  refine KSpl.split1 F N (by simp [S, Str.length]) (fun D l h' k e1 e2 F' N' l1 => h D (strValues l) h' k ?_ F' N' (allLt_of l1)) (by rw [sizeLine_eq]; omega)
  rw [e1, split_eq] at e2
  exact e2
theorem strs_size {vs : List Value} {xs : List Str} (h : StrsAre vs xs) : vs.toArray.size = xs.length := by rw [List.size_toArray, StrsAre.length h]
theorem slice_butlast {value slice : PySem.Expr} {vs : List Value} {xs : List Str} {k : Int} {tk : Tok} (hx : StrsAre vs xs) (hk : k = -1) (F : Fr h₀ L s.heap m) (N : News h₀ L s.heap news) (hl : s.heap.IsList l vs.toArray) (hz : xs.length ≤ 100000)
    (h : ∀ D ws h', StrsAre ws xs.dropLast → Fr h₀ L h' m → News h₀ L h' ((D, listOf (List.toArray ws) 0) :: news) → AllLt D news → Q (.ref D) { s with heap := h' })
    (hs : subscripted slice false (.ref l) (.ref s.heap.objs.size) = operate [.ref s.heap.objs.size, .ref l] (getItem (.ref l) (.ref s.heap.objs.size))) (ht : ∀ r, letTemporaryGo value (.ref l) r = pure ()) :
    wpAny (model prog w) A (subscriptTail value slice (.ref l) (.ref s.heap.objs.size)) Q E { s with heap := s.heap.push { cls := .type "slice", data := .fields #[.none, .int k tk, .none] } } := by
  subst hk
  have hn := strs_size hx
  have hlen := StrsAre.length hx
  have e : (slicePick vs.toArray none (some (-1)) none).toList = vs.take (vs.length - 1) := by
    have e0 : sliceBounds none (some (-1)) none vs.toArray.size = (((0 : Nat) : Int), ((vs.length - 1 : Nat) : Int), 1) := by
      simp only [sliceBounds, Option.getD_none, show (1 : Int) > 0 by decide, if_true, show ((-1 : Int) < 0) by decide]
      congr 1
      congr 1
      rw [hn]
      omega
    rw [kmk_pick_nat _ e0]
    simp
  refine kmk_slice_lit F N hl .none (.int _ _) e (fun D h' F' N' l1 => h D _ h' ?_ F' N' (allLt_of l1)) hs ht (by rw [hn, sizeLine_eq]; omega)
  have := StrsAre.take' hx (xs.length - 1)
  rw [← List.dropLast_eq_take] at this
  rw [hlen]
  exact this
theorem slice_behind {value slice : PySem.Expr} {vs : List Value} {xs : List Str} {k : Int} {tk : Tok} (hx : StrsAre vs xs) (hk : 0 ≤ k) (F : Fr h₀ L s.heap m) (N : News h₀ L s.heap news) (hl : s.heap.IsList l vs.toArray) (hz : xs.length ≤ 100000)
    (h : ∀ D ws h', StrsAre ws (xs.drop k.toNat) → Fr h₀ L h' m → News h₀ L h' ((D, listOf (List.toArray ws) 0) :: news) → AllLt D news → Q (.ref D) { s with heap := h' })
    (hs : subscripted slice false (.ref l) (.ref s.heap.objs.size) = operate [.ref s.heap.objs.size, .ref l] (getItem (.ref l) (.ref s.heap.objs.size))) (ht : ∀ r, letTemporaryGo value (.ref l) r = pure ()) :
    wpAny (model prog w) A (subscriptTail value slice (.ref l) (.ref s.heap.objs.size)) Q E { s with heap := s.heap.push { cls := .type "slice", data := .fields #[.int k tk, .none, .none] } } := by
  have hn := strs_size hx
  have e : (slicePick vs.toArray (some k) none none).toList = vs.drop k.toNat := by
    have e0 : sliceBounds (some k) none none vs.toArray.size = (((min k.toNat vs.toArray.size : Nat) : Int), ((vs.toArray.size : Nat) : Int), 1) := by
      simp only [sliceBounds, Option.getD_none, show (1 : Int) > 0 by decide, if_true, if_neg (show ¬ (k < 0) by omega)]
      congr 1
      clear hz hn hs ht h
      omega
    rw [kmk_pick_nat _ e0]
    show ((vs.drop (min k.toNat vs.toArray.size)).take (vs.toArray.size - min k.toNat vs.toArray.size)) = _
    rw [List.size_toArray, kmk_drop_min, List.take_of_length_le (by rw [List.length_drop]; omega)]
  exact kmk_slice_lit F N hl (.int _ _) .none e (fun D h' F' N' l1 => h D _ h' (StrsAre.drop' hx _) F' N' (allLt_of l1)) hs ht (by rw [hn, sizeLine_eq]; omega)
theorem append_S {D : Addr} {its : List Value} {n : Nat} {z : Value} {news' : List (Addr × Obj)} (F : Fr h₀ L s.heap m) (N : News h₀ L s.heap news) (U : Upd D (listOf its.toArray n) (listOf (its ++ [z]).toArray (n + 1)) news news')
    (hsz : its.length ≤ 100000) (h : ∀ h', Fr h₀ L h' m → News h₀ L h' news' → Q .none { s with heap := h' }) : wpAny (model prog w) A (call (.builtin "list.append") [.ref D, z]) Q E s := by
  have e : (its ++ [z]).toArray = its.toArray.push z := by simp
  rw [e] at U
  exact append_K F N U h (by rw [List.size_toArray, sizeLine_eq]; omega)
end
theorem lt_ne {D : Addr} {news : List (Addr × Obj)} (h : ∀ p ∈ news, p.1 < D) : ∀ p ∈ news, p.1 ≠ D := fun p hp => Nat.ne_of_lt (h p hp)
/-- where the loop's list is made anew, or changed -/
theorem own_new {own : List (Addr × Obj)} {D d d2 : Addr} {o o' : Obj} {news : List (Addr × Obj)} (hoff : OwnOff own (((D, o) :: (d, o') :: news).map (·.1))) (l1 : AllLt d2 ((D, o) :: (d, o') :: (news ++ own))) {q q' : Obj} :
    OwnOff own (((D, q) :: (d2, q') :: news).map (·.1)) := by
  intro p hp b hb e
  simp only [List.map_cons, List.mem_cons] at hb
  rcases hb with rfl | rfl | hb
  · exact hoff p hp _ (by simp) e
  · have := kst_ltOf l1 p (by simp [hp])
    exact absurd this (by rw [e]; exact Nat.lt_irrefl _)
  · exact hoff p hp b (by simp only [List.map_cons, List.mem_cons]; exact .inr (.inr hb)) e
end Mine
end
section
open PySem PySem.W PyProof.Rows
namespace Mine
-- what the program's functions yield, over lists of signs
noncomputable def stripEnd (l : List Nat) : Nat → Nat
  | 0 => 0
  | 1 => 1
  | n + 2 => if l[n + 1]? = some 47 then stripEnd l (n + 1) else n + 2
noncomputable def asFile (l : List Nat) : List Nat := l.take (stripEnd l l.length)
noncomputable def isAbs (l : List Nat) : Bool := decide (l.take 1 = [47]) || decide (l.take 1 = [126])
noncomputable def dirPart (l : List Nat) : List Nat := l.take (l.length - (tw 47 l).length)
noncomputable def asDir (l : List Nat) : List Nat := if l = [] then [46, 47] else if l.drop (l.length - 1) = [47] then l else l ++ [47]
noncomputable def isDig (c : Nat) : Bool := decide (c ∈ [48, 49, 50, 51, 52, 53, 54, 55, 56, 57])
noncomputable def scanBack (l : List Nat) : Nat → Nat
  | 0 => 0
  | n + 1 => if isDig (l.getD n 0) then scanBack l n else n + 1
noncomputable def verStart (l : List Nat) : Nat :=
  if l.length < 2 ∨ l[l.length - 1]? ≠ some 126 then l.length
  else if scanBack l (l.length - 1) < l.length - 1 ∧ 2 < scanBack l (l.length - 1) ∧ (l.drop (scanBack l (l.length - 1) - 2)).take 2 = [46, 126] then scanBack l (l.length - 1) - 2
  else l.length - 1
noncomputable def withoutVer (l : List Nat) : List Nat := dirPart l ++ (tw 47 l).take (verStart (tw 47 l))
noncomputable def extStart (l : List Nat) : Int := if (l.length : Int) - 1 - (tw 46 l).length > 0 then (l.length : Int) - 1 - (tw 46 l).length else -1
noncomputable def extOwn (l : List Nat) : List Nat := withoutVer (tw 47 l)
noncomputable def extension (l : List Nat) : List Nat := (extOwn l).drop (extStart (extOwn l) + 1).toNat
noncomputable def withoutExt (l : List Nat) : List Nat := dirPart l ++ (extOwn l).take (extStart (extOwn l)).toNat
noncomputable def withHome (n h : List Nat) : List Nat :=
  if n = [126] ∨ n.take 2 = [126, 47] then (if asFile h ≠ [47] then asFile h ++ n.drop 1 else 47 :: n.drop 2) else n
noncomputable def stepF (found : List (List Nat)) (step : List Nat) : List (List Nat) :=
  if step = [46, 46] then found.dropLast else if step = [] ∨ step = [46] then found else found ++ [step]
noncomputable def stepsL (parts : List (List Nat)) : List (List Nat) := parts.foldl stepF []
noncomputable def baseOf (d h : List Nat) : List Nat := if (withHome d h).take 1 ≠ [47] then 47 :: withHome d h else withHome d h
noncomputable def wholeOf (n d h : List Nat) : List Nat := if (withHome n h).take 1 ≠ [47] then asDir (baseOf d h) ++ withHome n h else withHome n h
noncomputable def joined (ps : List (List Nat)) : List Nat := 47 :: glue 47 ps
noncomputable def expL (n d h : List Nat) : List Nat :=
  if joined (stepsL (cut 47 (wholeOf n d h))) ≠ [47] ∧ n.drop (n.length - 1) = [47] then joined (stepsL (cut 47 (wholeOf n d h))) ++ [47] else joined (stepsL (cut 47 (wholeOf n d h)))

theorem cut_len (c : Nat) : ∀ l : List Nat, (cut c l).length ≤ l.length + 1
  | [] => by simp [cut]
  | d :: r => by
    have ih := cut_len c r
    unfold cut
    split
    · simp; omega
    · split
      · simp
      · rename_i e
        rw [e] at ih
        simp at ih ⊢
        omega
theorem asFile_len (l : List Nat) : (asFile l).length ≤ l.length := by unfold asFile; rw [List.length_take]; omega
theorem dirPart_len (l : List Nat) : (dirPart l).length ≤ l.length := by unfold dirPart; rw [List.length_take]; omega
theorem scanBack_le (l : List Nat) : ∀ n, scanBack l n ≤ n
  | 0 => Nat.le_refl _
  | n + 1 => by
    unfold scanBack
    split
    · have := scanBack_le l n; omega
    · omega
theorem verStart_le (l : List Nat) : verStart l ≤ l.length := by
  have := scanBack_le l (l.length - 1)
  unfold verStart
  split
  · omega
  · split <;> omega
theorem withoutVer_len (l : List Nat) : (withoutVer l).length ≤ l.length := by
  have h := tw_len 47 l
  unfold withoutVer dirPart
  rw [List.length_append, List.length_take, List.length_take]
  omega
theorem withHome_len (n h : List Nat) : (withHome n h).length ≤ n.length + h.length + 1 := by
  have := asFile_len h
  unfold withHome
  split
  · split
    · rw [List.length_append, List.length_drop]; omega
    · rw [List.length_cons, List.length_drop]; omega
  · omega
theorem asDir_len (l : List Nat) : (asDir l).length ≤ l.length + 2 := by
  unfold asDir
  split
  · simp
  · split <;> simp
theorem baseOf_len (d h : List Nat) : (baseOf d h).length ≤ d.length + h.length + 2 := by
  have := withHome_len d h
  unfold baseOf
  split
  · rw [List.length_cons]; omega
  · omega
theorem wholeOf_len (n d h : List Nat) : (wholeOf n d h).length ≤ n.length + d.length + 2 * h.length + 5 := by
  have h1 := withHome_len n h
  have h2 := baseOf_len d h
  have h3 := asDir_len (baseOf d h)
  unfold wholeOf
  split
  · rw [List.length_append]; omega
  · omega
/-- the signs in all the parts, and one for each joint -/
noncomputable def tot (ps : List (List Nat)) : Nat := (ps.map (fun p => p.length + 1)).sum
theorem glue_len (c : Nat) : ∀ ps, (glue c ps).length ≤ tot ps
  | [] => by simp [glue]
  | [p] => by simp [glue, tot]
  | p :: q :: r => by
    have := glue_len c (q :: r)
    simp only [glue, tot, List.map_cons, List.sum_cons, List.length_append, List.length_cons] at this ⊢
    omega
theorem tot_append (a b : List (List Nat)) : tot (a ++ b) = tot a + tot b := by simp [tot]
theorem tot_dropLast (a : List (List Nat)) : tot a.dropLast ≤ tot a := by
  rcases List.eq_nil_or_concat a with rfl | ⟨i, x, rfl⟩
  · simp
  · simp only [List.concat_eq_append, List.dropLast_concat, tot_append]
    omega
theorem stepF_tot (f : List (List Nat)) (p : List Nat) : tot (stepF f p) ≤ tot f + (p.length + 1) := by
  have := tot_dropLast f
  unfold stepF
  split
  · omega
  · split
    · omega
    · rw [tot_append]; simp [tot]
theorem stepsL_tot (ps : List (List Nat)) : tot (stepsL ps) ≤ tot ps := by
  have : ∀ (ps f : List (List Nat)), tot (ps.foldl stepF f) ≤ tot f + tot ps := by
    intro ps
    induction ps with
    | nil => intro f; simp [tot]
    | cons p r ih =>
      intro f
      have h1 := ih (stepF f p)
      have h2 := stepF_tot f p
      have h3 : tot (p :: r) = p.length + 1 + tot r := by simp [tot]
      rw [List.foldl_cons]
      omega
  have := this ps []
  unfold stepsL
  simp only [tot, List.map_nil, List.sum_nil, Nat.zero_add] at this ⊢
  exact this
theorem cut_tot (c : Nat) : ∀ l, tot (cut c l) = l.length + 1
  | [] => by simp [cut, tot]
  | d :: r => by
    have ih := cut_tot c r
    unfold cut
    split
    · simp only [tot, List.map_cons, List.sum_cons, List.length_nil, List.length_cons] at ih ⊢
      omega
    · split
      · rename_i e
        exact absurd e (cut_ne c r)
      · rename_i e
        rw [e] at ih
        simp only [tot, List.map_cons, List.sum_cons, List.length_cons] at ih ⊢
        omega
theorem joined_len (l : List Nat) : (joined (stepsL (cut 47 l))).length ≤ l.length + 2 := by
  have h1 := glue_len 47 (stepsL (cut 47 l))
  have h2 := stepsL_tot (cut 47 l)
  have h3 := cut_tot 47 l
  unfold joined
  rw [List.length_cons]
  omega
theorem expL_len (n d h : List Nat) : (expL n d h).length ≤ n.length + d.length + 2 * h.length + 8 := by
  have h1 := wholeOf_len n d h
  have h2 := joined_len (wholeOf n d h)
  unfold expL
  split
  · rw [List.length_append, List.length_singleton]; omega
  · omega
theorem expL_pos (n d h : List Nat) : 1 ≤ (expL n d h).length := by
  unfold expL joined
  split <;> simp
-- pieces as they come out of the walk
theorem last_part_eq (x : Str) : Txt.slice x (some (Txt.rfind x (Str.ofString "/") + 1)) none = S (tw 47 (Lx x)) := by
  have hl := len_L x
  have ht := tw_len 47 (Lx x)
  rw [slash_lit, rfind_eq, slice_from x (by omega)]
  congr 1
  have e : ((x.length : Int) - 1 - (tw 47 (Lx x)).length + 1).toNat = (Lx x).length - (tw 47 (Lx x)).length := by omega
  rw [e]
  by_cases h : 47 ∈ Lx x
  · obtain ⟨a, ha⟩ := split_last h
    have hn : (Lx x).length - (tw 47 (Lx x)).length = a.length + 1 := by
      have := congrArg List.length ha
      simp at this
      omega
    rw [hn]
    conv => lhs; rw [ha]
    have : a ++ 47 :: tw 47 (Lx x) = (a ++ [47]) ++ tw 47 (Lx x) := by simp
    rw [this, List.drop_append_of_le_length (by simp)]
    simp
  · rw [tw_free h, Nat.sub_self, List.drop_zero]
theorem dir_none {x : Str} (h : 47 ∉ Lx x) : Txt.rfind x (Str.ofString "/") < 0 := by
  rw [slash_lit, rfind_none h]; decide
theorem dir_some {x : Str} (h : 47 ∈ Lx x) : 0 ≤ Txt.rfind x (Str.ofString "/") := by
  have hl := len_L x
  obtain ⟨a, ha⟩ := split_last h
  have := congrArg List.length ha
  simp at this
  rw [slash_lit, rfind_eq]
  omega
theorem dir_eq {x : Str} (h : 47 ∈ Lx x) : Txt.slice x none (some (Txt.rfind x (Str.ofString "/") + 1)) = S (dirPart (Lx x)) := by
  have h0 := dir_some h
  have hl := len_L x
  have ht := tw_len 47 (Lx x)
  rw [slice_upto x (by omega)]
  unfold dirPart
  rw [slash_lit, rfind_eq] at *
  congr 2
  omega
theorem head_eq (x : Str) (c : Nat) : (Txt.slice x none (some 1) == S [c]) = decide ((Lx x).take 1 = [c]) := by
  rw [slice_upto x (by decide), beq_L, L_S, L_S]
  rfl
theorem end_eq (x : Str) (c : Nat) : (Txt.slice x (some (-1)) none == S [c]) = decide ((Lx x).drop ((Lx x).length - 1) = [c]) := by
  rw [slice_last, beq_L, L_S, L_S]
theorem beq_S (x : Str) (l : List Nat) : (x == S l) = decide (Lx x = l) := by rw [beq_L, L_S]
theorem bne_S (x : Str) (l : List Nat) : (x != S l) = decide (Lx x ≠ l) := by
  rw [bne, beq_S]
  by_cases h : Lx x = l <;> simp [h]
theorem digit_eq (x : Str) {i : Int} (h0 : 0 ≤ i) (h1 : i < x.length) : Txt.contains (Str.ofString "0123456789") (Txt.item x i) = isDig ((Lx x).getD i.toNat 0) := by
  rw [digits_lit, item_S x h0 h1, contains_one]
  rfl
end Mine
namespace Mine
/-- the use of a contract, with what is known of its answer -/
theorem Ct.useF {f : Addr} {k : Nat} {pre post : Prop} {vs : List Value} {R : Tok → Value} (C : Ct f k pre vs R ∧ (pre → post))
    {w : World} {mean : ExcName → Option Value} {mg mb : Str → Option Value} {news : List (Addr × Obj)} {dp un : Nat} {gd : Option (List Code)} {cn : Str} {cs : Scope} {a : Addr} {ccd : Value} {cl : List (Str × Addr)} {outer : List Env} {A₀ : Around} {base h₀ : Heap} {L : Addr} {m : Str → Option Value} {s : Shared} {Q E : Value → Shared → Prop}
    (B : Below A₀ base outer h₀) (F : Fr h₀ L s.heap m) (X : (hd.heap_1 w.params).In h₀) (N : News h₀ L s.heap news) (T : Top hd.view_1 (looseW hd.view_1 []) mean mg mb h₀) (hk : cs.kind = .function) (hp : pre)
    (hd : dp + k < recursionLimit) (hu : un + 8 * k < cLine) (hret : post → ∀ (t : Tok) (h' : Heap) (tk' : Nat), Fr h₀ L h' m → News h₀ L h' news → Q (R t) { s with heap := h', toks := tk' }) :
    wpAny (model PySem.Challenge.rw_np0038_01.row.prog w) (ktrTop dp un gd cn cs L a ccd cl outer) (call (.ref f) vs) Q E s :=
  C.1 w mean mg mb news dp un gd cn cs a ccd cl outer A₀ base h₀ L m s Q E B F X N T hk hp hd hu (hret (C.2 hp))
end Mine
namespace Mine
noncomputable def CtL (f : Addr) (k : Nat) (pre : Prop) (vs : List Value) (xs : List Str) : Prop :=
  ∀ (w : World) (mean : ExcName → Option Value) (mg mb : Str → Option Value) (news : List (Addr × Obj)) (dp un : Nat) (gd : Option (List Code)) (cn : Str) (cs : Scope) (a : Addr) (ccd : Value) (cl : List (Str × Addr)) (outer : List Env) (A₀ : Around) (base h₀ : Heap) (L : Addr) (m : Str → Option Value) (s : Shared) (Q E : Value → Shared → Prop),
    Below A₀ base outer h₀ → Fr h₀ L s.heap m → (hd.heap_1 w.params).In h₀ → News h₀ L s.heap news → Top hd.view_1 (looseW hd.view_1 []) mean mg mb h₀ → cs.kind = .function → pre →
    dp + k < recursionLimit → un + 8 * k < cLine → (∀ (D : Addr) (its : List Value) (n : Nat) (h' : Heap) (tk' : Nat), Fr h₀ L h' m → News h₀ L h' ((D, listOf its.toArray n) :: news) → AllLt D news → StrsAre its xs → Q (.ref D) { s with heap := h', toks := tk' }) →
    wpAny (model PySem.Challenge.rw_np0038_01.row.prog w) (ktrTop dp un gd cn cs L a ccd cl outer) (call (.ref f) vs) Q E s
theorem CtL.use {f : Addr} {k : Nat} {pre : Prop} {vs : List Value} {xs : List Str} (C : CtL f k pre vs xs)
    {w : World} {mean : ExcName → Option Value} {mg mb : Str → Option Value} {news : List (Addr × Obj)} {dp un : Nat} {gd : Option (List Code)} {cn : Str} {cs : Scope} {a : Addr} {ccd : Value} {cl : List (Str × Addr)} {outer : List Env} {A₀ : Around} {base h₀ : Heap} {L : Addr} {m : Str → Option Value} {s : Shared} {Q E : Value → Shared → Prop}
    (B : Below A₀ base outer h₀) (F : Fr h₀ L s.heap m) (X : (hd.heap_1 w.params).In h₀) (N : News h₀ L s.heap news) (T : Top hd.view_1 (looseW hd.view_1 []) mean mg mb h₀) (hk : cs.kind = .function) (hp : pre)
    (hd : dp + k < recursionLimit) (hu : un + 8 * k < cLine) (hret : ∀ (D : Addr) (its : List Value) (n : Nat) (h' : Heap) (tk' : Nat), Fr h₀ L h' m → News h₀ L h' ((D, listOf its.toArray n) :: news) → AllLt D news → StrsAre its xs → Q (.ref D) { s with heap := h', toks := tk' }) :
    wpAny (model PySem.Challenge.rw_np0038_01.row.prog w) (ktrTop dp un gd cn cs L a ccd cl outer) (call (.ref f) vs) Q E s :=
  C w mean mg mb news dp un gd cn cs a ccd cl outer A₀ base h₀ L m s Q E B F X N T hk hp hd hu hret
end Mine
namespace Mine
theorem tot_sum : ∀ xs : List (List Nat), ((xs.map S).map (·.length)).sum + (xs.map S).length * 1 = tot xs
  | [] => by simp [tot]
  | x :: r => by
    have := tot_sum r
    simp only [tot, List.map_cons, List.sum_cons, List.length_cons, len_S] at this ⊢
    omega
theorem join_ref {prog : Program} {w : World} {A : Around} {E : Value → Shared → Prop} {s : Shared} {D : Addr} {its : List Value} {sep : Str} {t : Tok} {xs : List (List Nat)} {Q : Value → Shared → Prop} (hsep : sep = S [47]) (hl : s.heap.IsList D its.toArray) (hi : StrsAre its (xs.map S)) (hok : tot xs ≤ 1000000)
    (h : (S (glue 47 xs)).length ≤ 1000000 → ∀ t' k, Q (.str (S (glue 47 xs)) t') { s with toks := k }) : wpAny (model prog w) A (call (.builtin "str.join") [.str sep t, .ref D]) Q E s := by
  subst hsep
  have e : Txt.join (S [47]) (xs.map S) = S (glue 47 xs) := by
    rw [tjoin_S]
    simp [Function.comp_def, L_S]
  have hle : (S (glue 47 xs)).length ≤ 1000000 := by rw [len_S]; exact Nat.le_trans (glue_len 47 xs) hok
  refine join_list hl (ys := xs.map S) (by simpa using hi) ?_ fun t' k => ?_
  · have := tot_sum xs
    have e1 : (S [47]).length = 1 := rfl
    rw [e1, this]
    omega
  · rw [e]
    exact h hle t' k
end Mine
end
section
open PySem PySem.W PyProof.Rows
namespace Mine
theorem extension_len (l : List Nat) : (extension l).length ≤ l.length := by
  have h1 := withoutVer_len (tw 47 l)
  have h2 := tw_len 47 l
  unfold extension extOwn
  rw [List.length_drop]
  omega
theorem withoutExt_len0 (l : List Nat) : (withoutExt l).length ≤ l.length := by
  have h1 := withoutVer_len (tw 47 l)
  have h2 := tw_len 47 l
  unfold withoutExt dirPart extOwn
  rw [List.length_append, List.length_take, List.length_take]
  omega
noncomputable def withoutE (l : List Nat) : List Nat := if extStart (extOwn l) < 0 then l else withoutExt l
theorem withoutExt_len (l : List Nat) : (withoutE l).length ≤ l.length := by
  have := withoutExt_len0 l
  unfold withoutE
  split <;> omega
noncomputable def isBackup (l : List Nat) : Bool := decide (verStart (tw 47 l) < (tw 47 l).length)
noncomputable def isAuto (l : List Nat) : Bool := decide (2 < l.length) && (decide (l[0]? = some 35) && decide (l.drop (l.length - 1) = [35]))
noncomputable def abbr (x h : List Nat) : List Nat :=
  if asFile h = [47] then x else if x = asFile h then [126] else if x.take ((asFile h).length + 1) = asFile h ++ [47] then 126 :: x.drop (asFile h).length else x
theorem abbr_len (x h : List Nat) : (abbr x h).length ≤ x.length + 1 := by
  unfold abbr
  split
  · omega
  · split
    · simp
    · split
      · rw [List.length_cons, List.length_drop]; omega
      · omega
/-- an int's figures -/
noncomputable def figs (k : Int) : List Nat := Lx (Str.ofString (toString k))
noncomputable def numbered (l : List Nat) (k : Int) : List Nat := l ++ [46, 126] ++ figs k ++ [126]
/-- the figures, by sums -/
noncomputable def dg (n : Nat) : List Nat := if n < 10 then [n + 48] else if n < 100 then [n / 10 + 48, n % 10 + 48] else if n < 1000 then [n / 100 + 48, n / 10 % 10 + 48, n % 10 + 48] else [49, 48, 48, 48]
theorem figs_dg : ∀ n : Nat, n ≤ 1000 → figs (n : Int) = dg n := by decide +kernel
theorem dg_len (n : Nat) : (dg n).length ≤ 4 ∧ 0 < (dg n).length := by
  unfold dg
  split
  · simp
  · split
    · simp
    · split <;> simp
theorem figs_small (n : Nat) (h : n ≤ 1000) : (figs (n : Int)).length ≤ 4 ∧ 0 < (figs (n : Int)).length := figs_dg n h ▸ dg_len n
theorem numbered_len (l : List Nat) {k : Int} (h0 : 0 ≤ k) (h1 : k ≤ 1000) : (numbered l k).length ≤ l.length + 10 := by
  obtain ⟨n, rfl⟩ : ∃ n : Nat, k = n := ⟨k.toNat, by omega⟩
  have := figs_small n (by omega)
  simp only [numbered, List.length_append, List.length_cons, List.length_nil]
  omega
end Mine
end
section
open PySem PySem.W PyProof.Rows PySem.Calls
namespace Mine
section
variable {prog : Program} {w : World} {A : Around} {E : Value → Shared → Prop} {s : Shared} {h₀ : Heap} {L D : Addr} {m : Str → Option Value} {news : List (Addr × Obj)} {its : List Value} {xs : List (List Nat)} {Q : Value → Shared → Prop}
theorem len_ref {c : Nat} (N : News h₀ L s.heap news) (hm : (D, listOf its.toArray c) ∈ news) (hi : StrsAre its (xs.map S)) (hf : xs.length < 1000000) (h : Q (.int (xs.length : Int) (s.toks + 1)) { s with toks := s.toks + 1 + 1 }) :
    wpAny (model prog w) A (call (.builtin "len") [.ref D]) Q E s :=
  KM.len_K N hm (by rw [List.size_toArray, StrsAre.length hi, List.length_map]) (by omega) h
theorem item_ref {value slice : PySem.Expr} {c : Nat} {k : Int} {u : Tok} (N : News h₀ L s.heap news) (hm : (D, listOf its.toArray c) ∈ news) (hi : StrsAre its (xs.map S)) (h0 : 0 ≤ k) (hk : k < xs.length) (hf : xs.length < 1000000)
    (h : ∀ t', Q (.str (S (xs.getD k.toNat [])) t') s)
    (hs : subscripted slice false (.ref D) (.int k u) = operate [.ref D, .int k u] (getItem (.ref D) (.int k u))) (hg : ∀ r, letTemporaryGo value (.ref D) r = pure ()) :
    wpAny (model prog w) A (subscriptTail value slice (.ref D) (.int k u)) Q E s := by
  refine item_strsA (News.isList N hm) hi h0 (by rw [List.length_map]; exact hk) (by omega) (fun t' => ?_) hs hg
  have e : (xs.map S).getD k.toNat Str.empty = S (xs.getD k.toNat []) := by
    have hlt : k.toNat < xs.length := by omega
    simp [List.getD_eq_getElem?_getD, List.getElem?_eq_getElem hlt]
  rw [e]
  exact h t'
theorem rep_strs {z : Str} {t : Tok} : ∀ n : Nat, StrsAre (List.replicate n [Value.str z t]).flatten ((List.replicate n (Lx z)).map S)
  | 0 => .nil
  | n + 1 => by
    rw [List.replicate_succ, List.flatten_cons, List.replicate_succ, List.map_cons, S_L]
    exact .cons _ _ (rep_strs n)
theorem mul_ref {z : Str} {t u : Tok} {c : Nat} {k : Int} (F : Fr h₀ L s.heap m) (N : News h₀ L s.heap news) (hm : (D, listOf [Value.str z t].toArray c) ∈ news) (h0 : 0 ≤ k) (h1 : k ≤ 200)
    (h : ∀ D' ws h', StrsAre ws ((List.replicate k.toNat (Lx z)).map S) → Fr h₀ L h' m → News h₀ L h' ((D', listOf (List.toArray ws) 0) :: news) → AllLt D' news → Q (.ref D') { s with heap := h' }) :
    wpAny (model prog w) A (binaryOp .Mult (.ref D) (.int k u)) Q E s :=
  KMa.mul F N (News.isList N hm) (by omega) (by omega) (by simp; omega) rfl fun D' h' F' N' l1 => h D' _ h' (rep_strs _) F' N' (allLt_of l1)
theorem add_ref {a b : Addr} {vs ws : List Value} {xs ys : List (List Nat)} (F : Fr h₀ L s.heap m) (N : News h₀ L s.heap news) (ha : s.heap.IsList a vs.toArray) (hb : s.heap.IsList b ws.toArray) (hx : StrsAre vs (xs.map S)) (hy : StrsAre ws (ys.map S))
    (hz : xs.length + ys.length ≤ 1000000)
    (h : ∀ D' us h', StrsAre us ((xs ++ ys).map S) → Fr h₀ L h' m → News h₀ L h' ((D', listOf (List.toArray us) 0) :: news) → AllLt D' news → Q (.ref D') { s with heap := h' }) :
    wpAny (model prog w) A (binaryOp .Add (.ref a) (.ref b)) Q E s := by
  refine kmk_add_lit F N ha hb (zs := vs ++ ws) (by simp) (fun D' h' F' N' l1 => h D' _ h' ?_ F' N' (allLt_of l1)) ?_
  · rw [List.map_append]
    exact StrsAre.append' hx hy
  · have h1 := StrsAre.length hx
    have h2 := StrsAre.length hy
    rw [List.length_map] at h1 h2
    simp only [h1, h2, sizeLine_eq]
    omega
theorem slice_fromL {value slice : PySem.Expr} {vs : List Value} {xs : List (List Nat)} {k : Int} {tk : Tok} {l : Addr} (hx : StrsAre vs (xs.map S)) (hk : 0 ≤ k) (F : Fr h₀ L s.heap m) (N : News h₀ L s.heap news) (hl : s.heap.IsList l vs.toArray) (hz : xs.length ≤ 100000)
    (h : ∀ D ws h', StrsAre ws ((xs.drop k.toNat).map S) → Fr h₀ L h' m → News h₀ L h' ((D, listOf (List.toArray ws) 0) :: news) → AllLt D news → Q (.ref D) { s with heap := h' })
    (hs : subscripted slice false (.ref l) (.ref s.heap.objs.size) = operate [.ref s.heap.objs.size, .ref l] (getItem (.ref l) (.ref s.heap.objs.size))) (ht : ∀ r, letTemporaryGo value (.ref l) r = pure ()) :
    wpAny (model prog w) A (subscriptTail value slice (.ref l) (.ref s.heap.objs.size)) Q E { s with heap := s.heap.push { cls := .type "slice", data := .fields #[.int k tk, .none, .none] } } :=
  slice_behind hx hk F N hl (by rw [List.length_map]; exact hz) (fun D ws h' q => h D ws h' (by rw [List.map_drop]; exact q)) hs ht
end
/-- how far two lists run alike -/
noncomputable def common : List (List Nat) → List (List Nat) → Nat
  | a :: as, b :: bs => if a = b then common as bs + 1 else 0
  | _, _ => 0
noncomputable def relSteps (st bs : List (List Nat)) : List (List Nat) := List.replicate (bs.length - common st bs) [46, 46] ++ st.drop (common st bs)
noncomputable def relW (w b : List Nat) : List Nat :=
  if glue 47 (relSteps (stepsL (cut 47 w)) (stepsL (cut 47 b))) = [] then (if w.drop (w.length - 1) = [47] then [46, 47] else [46])
  else if w.drop (w.length - 1) = [47] ∧ w ≠ [47] then glue 47 (relSteps (stepsL (cut 47 w)) (stepsL (cut 47 b))) ++ [47] else glue 47 (relSteps (stepsL (cut 47 w)) (stepsL (cut 47 b)))
noncomputable def relL (n d h : List Nat) : List Nat := relW (expL n [47] h) (expL d [47] h)
theorem common_le : ∀ a b, common a b ≤ a.length ∧ common a b ≤ b.length
  | [], _ => by simp [common]
  | _ :: _, [] => by simp [common]
  | a :: as, b :: bs => by
    have := common_le as bs
    unfold common
    split
    · simp only [List.length_cons]; omega
    · omega
theorem common_step {a b : List (List Nat)} {k : Nat} (ha : k < a.length) (hb : k < b.length) (h : common a b = k + common (a.drop k) (b.drop k)) (e : a.getD k [] = b.getD k []) : common a b = k + 1 + common (a.drop (k + 1)) (b.drop (k + 1)) := by
  rw [h]
  conv => lhs; rw [List.drop_eq_getElem_cons ha, List.drop_eq_getElem_cons hb]
  have e' : a[k] = b[k] := by simpa [List.getD_eq_getElem?_getD, List.getElem?_eq_getElem ha, List.getElem?_eq_getElem hb] using e
  rw [common, if_pos e']
  omega
theorem common_stop {a b : List (List Nat)} {k : Nat} (ha : k < a.length) (hb : k < b.length) (h : common a b = k + common (a.drop k) (b.drop k)) (e : a.getD k [] ≠ b.getD k []) : common a b = k := by
  rw [h]
  conv => lhs; rw [List.drop_eq_getElem_cons ha, List.drop_eq_getElem_cons hb]
  have e' : ¬ a[k] = b[k] := by simpa [List.getD_eq_getElem?_getD, List.getElem?_eq_getElem ha, List.getElem?_eq_getElem hb] using e
  rw [common, if_neg e']
  rfl
theorem common_over {a b : List (List Nat)} {k : Nat} (ho : ¬ k < a.length ∨ ¬ k < b.length) (h : common a b = k + common (a.drop k) (b.drop k)) : common a b = k := by
  rw [h]
  rcases ho with ho | ho
  · rw [List.drop_eq_nil_of_le (by omega)]
    simp [common]
  · rw [List.drop_eq_nil_of_le (as := b) (by omega)]
    cases a.drop k <;> simp [common]
theorem tot_rep (n : Nat) (p : List Nat) : tot (List.replicate n p) = n * (p.length + 1) := by simp [tot]
theorem tot_drop (a : List (List Nat)) (k : Nat) : tot (a.drop k) ≤ tot a := by
  have h := tot_append (a.take k) (a.drop k)
  rw [List.take_append_drop] at h
  omega
theorem tot_ge (a : List (List Nat)) : a.length ≤ tot a := by
  induction a with
  | nil => simp
  | cons x r ih => simp only [tot, List.map_cons, List.sum_cons, List.length_cons] at ih ⊢; omega
theorem relSteps_tot (st bs : List (List Nat)) : tot (relSteps st bs) ≤ 3 * tot bs + tot st := by
  have h1 := tot_ge bs
  have h2 := tot_drop st (common st bs)
  unfold relSteps
  rw [tot_append, tot_rep]
  simp only [List.length_cons, List.length_nil]
  omega
theorem relW_len (w b : List Nat) : (relW w b).length ≤ w.length + 3 * b.length + 8 := by
  have h1 := glue_len 47 (relSteps (stepsL (cut 47 w)) (stepsL (cut 47 b)))
  have h2 := relSteps_tot (stepsL (cut 47 w)) (stepsL (cut 47 b))
  have h3 := stepsL_tot (cut 47 w)
  have h4 := stepsL_tot (cut 47 b)
  rw [cut_tot] at h3 h4
  unfold relW
  split
  · split <;> simp
  · split
    · rw [List.length_append, List.length_singleton]; omega
    · omega
theorem relL_len (n d h : List Nat) : (relL n d h).length ≤ n.length + 3 * d.length + 8 * h.length + 50 := by
  have h1 := relW_len (expL n [47] h) (expL d [47] h)
  have h2 := expL_len n [47] h
  have h3 := expL_len d [47] h
  simp only [List.length_singleton] at h2 h3
  unfold relL
  omega
end Mine
end
section
open PySem PySem.W PyProof.Rows
namespace Mine
/-- the last place below n where a name begins anew -/
noncomputable def rs (l : List Nat) : Nat → Nat
  | 0 => 0
  | n + 1 => if 1 ≤ n ∧ l.getD (n - 1) 0 = 47 ∧ (l.getD n 0 = 47 ∨ l.getD n 0 = 126) then n else rs l n
theorem rs_le (l : List Nat) : ∀ n, rs l n ≤ n
  | 0 => Nat.le_refl _
  | n + 1 => by
    unfold rs
    split
    · omega
    · have := rs_le l n; omega
theorem rs_one (l : List Nat) : rs l 1 = 0 := by
  unfold rs
  rw [if_neg (fun h => absurd h.1 (by decide))]
  rfl
theorem rs_yes {l : List Nat} {n : Nat} (h : 1 ≤ n) (h1 : l.getD (n - 1) 0 = 47) (h2 : l.getD n 0 = 47 ∨ l.getD n 0 = 126) : rs l (n + 1) = n := by
  rw [rs, if_pos ⟨h, h1, h2⟩]
theorem rs_no1 {l : List Nat} {n : Nat} (h1 : ¬ l.getD (n - 1) 0 = 47) : rs l (n + 1) = rs l n := by
  rw [rs, if_neg fun h => h1 h.2.1]
theorem rs_no2 {l : List Nat} {n : Nat} (h2 : ¬ (l.getD n 0 = 47 ∨ l.getD n 0 = 126)) : rs l (n + 1) = rs l n := by
  rw [rs, if_neg fun h => h2 h.2.2]
noncomputable def isSign (c : Nat) : Bool := decide ((65 ≤ c ∧ c ≤ 90) ∨ (97 ≤ c ∧ c ≤ 122) ∨ c = 95 ∨ (48 ≤ c ∧ c ≤ 57))
/-- where the word that begins at n ends -/
noncomputable def varEnd (l : List Nat) (n : Nat) : Nat := n + ((l.drop n).takeWhile isSign).length
theorem varEnd_ge (l : List Nat) (n : Nat) : n ≤ varEnd l n := by unfold varEnd; omega
theorem varEnd_le (l : List Nat) (n : Nat) : varEnd l n ≤ max n l.length := by
  have := tw_le isSign (l.drop n)
  rw [List.length_drop] at this
  unfold varEnd
  omega
theorem varEnd_step {l : List Nat} {n : Nat} (h : n < l.length) (hs : isSign (l.getD n 0) = true) : varEnd l n = varEnd l (n + 1) := by
  unfold varEnd
  rw [List.drop_eq_getElem_cons h]
  have e : l.getD n 0 = l[n] := by simp [List.getD_eq_getElem?_getD, List.getElem?_eq_getElem h]
  rw [e] at hs
  rw [List.takeWhile_cons, if_pos hs, List.length_cons]
  omega
theorem varEnd_stop {l : List Nat} {n : Nat} (h : n < l.length) (hs : isSign (l.getD n 0) = false) : varEnd l n = n := by
  unfold varEnd
  rw [List.drop_eq_getElem_cons h]
  have e : l.getD n 0 = l[n] := by simp [List.getD_eq_getElem?_getD, List.getElem?_eq_getElem h]
  rw [e] at hs
  rw [List.takeWhile_cons, if_neg (by simp [hs])]
  rfl
theorem varEnd_over {l : List Nat} {n : Nat} (h : l.length ≤ n) : varEnd l n = n := by
  unfold varEnd
  rw [List.drop_eq_nil_of_le h]
  rfl
theorem signs_lit : Str.ofString "ABCDEFGHIJKLMNOPQRSTUVWXYZabcdefghijklmnopqrstuvwxyz_0123456789" = S [65, 66, 67, 68, 69, 70, 71, 72, 73, 74, 75, 76, 77, 78, 79, 80, 81, 82, 83, 84, 85, 86, 87, 88, 89, 90, 97, 98, 99, 100, 101, 102, 103, 104, 105, 106, 107, 108, 109, 110, 111, 112, 113, 114, 115, 116, 117, 118, 119, 120, 121, 122, 95, 48, 49, 50, 51, 52, 53, 54, 55, 56, 57] := by decide +kernel
noncomputable def signsL : List Nat := [65, 66, 67, 68, 69, 70, 71, 72, 73, 74, 75, 76, 77, 78, 79, 80, 81, 82, 83, 84, 85, 86, 87, 88, 89, 90, 97, 98, 99, 100, 101, 102, 103, 104, 105, 106, 107, 108, 109, 110, 111, 112, 113, 114, 115, 116, 117, 118, 119, 120, 121, 122, 95, 48, 49, 50, 51, 52, 53, 54, 55, 56, 57]
theorem signs_small : ∀ c < 128, decide (c ∈ signsL) = isSign c := by decide +kernel
theorem signs_lt : ∀ d ∈ signsL, d < 128 := by decide +kernel
theorem sign_mem (c : Nat) : decide (c ∈ signsL) = isSign c := by
  by_cases h : c < 128
  · exact signs_small c h
  · rw [decide_eq_false fun hm => h (signs_lt c hm)]
    unfold isSign
    exact (decide_eq_false (by omega)).symm
theorem sign_eq (x : Str) {i : Int} (h0 : 0 ≤ i) (h1 : i < x.length) : Txt.contains (Str.ofString "ABCDEFGHIJKLMNOPQRSTUVWXYZabcdefghijklmnopqrstuvwxyz_0123456789") (Txt.item x i) = isSign ((Lx x).getD i.toNat 0) := by
  rw [signs_lit, item_S x h0 h1, contains_one, L_S]
  exact sign_mem _
theorem st_lit : Str.ofString "/~" = S [47, 126] := by decide +kernel
theorem start_eq (x : Str) {i : Int} (h0 : 0 ≤ i) (h1 : i < x.length) : Txt.contains (Str.ofString "/~") (Txt.item x i) = decide ((Lx x).getD i.toNat 0 = 47 ∨ (Lx x).getD i.toNat 0 = 126) := by
  rw [st_lit, item_S x h0 h1, contains_one, L_S]
  simp
theorem item_is (x : Str) {i : Int} {c : Nat} (h0 : 0 ≤ i) (h1 : i < x.length) : (Txt.item x i == S [c]) = decide ((Lx x).getD i.toNat 0 = c) := by
  rw [item_S x h0 h1, beq_L, L_S, L_S]
  simp
theorem occ_f {a b : Str} (h : (Builtin.Str.occurrences a b 0 a.length 1).isEmpty = true) : Txt.contains a b = false := by unfold Txt.contains; rw [h]; rfl
theorem occ_t {a b : Str} (h : (Builtin.Str.occurrences a b 0 a.length 1).isEmpty = false) : Txt.contains a b = true := by unfold Txt.contains; rw [h]; rfl
end Mine
end
section
open PySem PySem.W PyProof.Rows PySem.Calls
namespace Mine
section
variable {prog : Program} {w : World} {A : Around} {E : Value → Shared → Prop} {s : Shared} {env : Env} {h₀ : Heap} {L : Addr} {m m' : Str → Option Value} {news : List (Addr × Obj)} {Q : Flow → Shared → Prop} {st : Stmt}
theorem fr_congr {h : Heap} (F : Fr h₀ L h m) (e : ∀ y, m y = m' y) : Fr h₀ L h m' := by
  have : m = m' := funext e
  rw [← this]
  exact F
/-- a statement on its own: one local anew, the ledger kept -/
noncomputable def OneLocal (h₀ : Heap) (L : Addr) (m : Str → Option Value) (news : List (Addr × Obj)) (x : Str) (R : Value → Prop) (s : Shared) (f : Flow) (s' : Shared) : Prop :=
  f = .next ∧ ∃ h' tk' v, R v ∧ s' = { s with heap := h', toks := tk' } ∧ Fr h₀ L h' (fun y => if y = x then some v else m y) ∧ News h₀ L h' news
theorem cut_local (x : Str) (R : Value → Prop) (_F : Fr h₀ L s.heap m) (_N : News h₀ L s.heap news) (h1 : wpAny (model prog w) A (exec st env) (OneLocal h₀ L m news x R s) E s)
    (h2 : ∀ h' tk' v, R v → Fr h₀ L h' (fun y => if y = x then some v else m y) → News h₀ L h' news → Q .next { s with heap := h', toks := tk' }) : wpAny (model prog w) A (exec st env) Q E s := by
  refine wpAny_mono h1 (fun f s' p => ?_) fun _ _ e => e
  obtain ⟨rfl, h', tk', v, hR, rfl, F', N'⟩ := p
  exact h2 h' tk' v hR F' N'
theorem one_local {x : Str} {R : Value → Prop} {v : Value} {h' : Heap} {tk' : Nat} (hR : R v) (F : Fr h₀ L h' m') (N : News h₀ L h' news) (e : ∀ y, m' y = if y = x then some v else m y) : OneLocal h₀ L m news x R s .next { s with heap := h', toks := tk' } :=
  ⟨rfl, h', tk', v, hR, rfl, fr_congr F e, N⟩
/-- a statement on its own: nothing anew -/
noncomputable def NoLocal (h₀ : Heap) (L : Addr) (m : Str → Option Value) (news : List (Addr × Obj)) (s : Shared) (f : Flow) (s' : Shared) : Prop :=
  f = .next ∧ ∃ h' tk', s' = { s with heap := h', toks := tk' } ∧ Fr h₀ L h' m ∧ News h₀ L h' news
theorem no_local {h' : Heap} {tk' : Nat} (F : Fr h₀ L h' m) (N : News h₀ L h' news) : NoLocal h₀ L m news s .next { s with heap := h', toks := tk' } :=
  ⟨rfl, h', tk', rfl, F, N⟩
end
end Mine
namespace Mine
theorem sto_none {m : Str → Option Value} {x : Str} {v : Value} (h : m x = some v) : ∀ y, m y = if y = x then some v else m y := by
  intro y
  split
  · rename_i e
    rw [e, h]
  · rfl
end Mine
namespace Mine
noncomputable def IsS (l : List Nat) (v : Value) : Prop := ∃ t, v = .str (S l) t
theorem isS_of {x : Str} {t : Tok} {l : List Nat} (h : x = S l) : IsS l (.str x t) := ⟨t, by rw [h]⟩
theorem cut_str {prog : Program} {w : World} {A : Around} {E : Value → Shared → Prop} {s : Shared} {env : Env} {h₀ : Heap} {L : Addr} {m : Str → Option Value} {news : List (Addr × Obj)} {Q : Flow → Shared → Prop} {st : Stmt} (x : Str) (l : List Nat) (F : Fr h₀ L s.heap m) (N : News h₀ L s.heap news) (h1 : wpAny (model prog w) A (exec st env) (OneLocal h₀ L m news x (IsS l) s) E s)
    (h2 : ∀ h' tk' t, Fr h₀ L h' (fun y => if y = x then some (.str (S l) t) else m y) → News h₀ L h' news → Q .next { s with heap := h', toks := tk' }) : wpAny (model prog w) A (exec st env) Q E s :=
  cut_local x (IsS l) F N h1 fun h' tk' v hR F' N' => by obtain ⟨t, rfl⟩ := hR; exact h2 h' tk' t F' N'
end Mine
namespace Mine
theorem sub_tail {α : Type} {x : α} {l l2 : List α} (h : ∀ p ∈ l2, p ∈ l) : ∀ p ∈ l2, p ∈ x :: l := fun p hp => .tail _ (h p hp)
theorem sub_rfl {α : Type} {l : List α} : ∀ p ∈ l, p ∈ l := fun _ hp => hp
theorem cut_drop {prog : Program} {w : World} {A : Around} {E : Value → Shared → Prop} {s : Shared} {env : Env} {h₀ : Heap} {L : Addr} {m : Str → Option Value} {news news2 : List (Addr × Obj)} {Q : Flow → Shared → Prop} {st : Stmt}
    (_F : Fr h₀ L s.heap m) (_N : News h₀ L s.heap news) (_hsub : ∀ p ∈ news2, p ∈ news) (h1 : wpAny (model prog w) A (exec st env) (NoLocal h₀ L m news2 s) E s)
    (h2 : ∀ h' tk', Fr h₀ L h' m → News h₀ L h' news2 → Q .next { s with heap := h', toks := tk' }) : wpAny (model prog w) A (exec st env) Q E s := by
  refine wpAny_mono h1 (fun f s' p => ?_) fun _ _ e => e
  obtain ⟨rfl, h', tk', rfl, F', N'⟩ := p
  exact h2 h' tk' F' N'
end Mine
namespace Mine
theorem sub1 {α : Type} {a : α} {z : List α} : ∀ p ∈ z, p ∈ a :: z := fun _ hp => .tail _ hp
theorem sub2 {α : Type} {a b : α} {z : List α} : ∀ p ∈ z, p ∈ a :: b :: z := fun _ hp => .tail _ (.tail _ hp)
theorem sub3 {α : Type} {a b c : α} {z : List α} : ∀ p ∈ z, p ∈ a :: b :: c :: z := fun _ hp => .tail _ (.tail _ (.tail _ hp))
theorem sub4 {α : Type} {a b c d : α} {z : List α} : ∀ p ∈ z, p ∈ a :: b :: c :: d :: z := fun _ hp => .tail _ (.tail _ (.tail _ (.tail _ hp)))
theorem sub5 {α : Type} {a b c d e : α} {z : List α} : ∀ p ∈ z, p ∈ a :: b :: c :: d :: e :: z := fun _ hp => .tail _ (.tail _ (.tail _ (.tail _ (.tail _ hp))))
theorem sub6 {α : Type} {a b c d e f : α} {z : List α} : ∀ p ∈ z, p ∈ a :: b :: c :: d :: e :: f :: z := fun _ hp => .tail _ (.tail _ (.tail _ (.tail _ (.tail _ (.tail _ hp)))))
theorem sub7 {α : Type} {a b c d e f g : α} {z : List α} : ∀ p ∈ z, p ∈ a :: b :: c :: d :: e :: f :: g :: z := fun _ hp => .tail _ (.tail _ (.tail _ (.tail _ (.tail _ (.tail _ (.tail _ hp))))))
theorem sub8 {α : Type} {a b c d e f g h : α} {z : List α} : ∀ p ∈ z, p ∈ a :: b :: c :: d :: e :: f :: g :: h :: z := fun _ hp => .tail _ (.tail _ (.tail _ (.tail _ (.tail _ (.tail _ (.tail _ (.tail _ hp)))))))
theorem sub9 {α : Type} {a b c d e f g h i : α} {z : List α} : ∀ p ∈ z, p ∈ a :: b :: c :: d :: e :: f :: g :: h :: i :: z := fun _ hp => .tail _ (.tail _ (.tail _ (.tail _ (.tail _ (.tail _ (.tail _ (.tail _ (.tail _ hp))))))))
theorem sub10 {α : Type} {a b c d e f g h i j : α} {z : List α} : ∀ p ∈ z, p ∈ a :: b :: c :: d :: e :: f :: g :: h :: i :: j :: z := fun _ hp => .tail _ (.tail _ (.tail _ (.tail _ (.tail _ (.tail _ (.tail _ (.tail _ (.tail _ (.tail _ hp)))))))))
end Mine
end
section
open PySem PySem.W PyProof.Rows
set_option maxRecDepth 100000
set_option maxHeartbeats 8000000
namespace Mine
theorem abs_t {x : Str} (h : (Txt.slice x none (some 1) == Str.ofString "/") = true) : (Txt.slice x none (some 1) == Str.ofString "/") = isAbs (Lx x) := by
  rw [h]
  rw [slash_lit, head_eq, decide_eq_true_eq] at h
  simp [isAbs, h]
theorem abs_f {x : Str} (h : (Txt.slice x none (some 1) == Str.ofString "/") = false) : (Txt.slice x none (some 1) == Str.ofString "~") = isAbs (Lx x) := by
  rw [slash_lit, head_eq, decide_eq_false_iff_not] at h
  rw [tilde_lit, head_eq]
  simp [isAbs, h]
theorem as_dir_nil {x : Str} (h : (x == Str.ofString "") = true) : Str.ofString "./" = S (asDir (Lx x)) := by
  rw [empty_lit, beq_S, decide_eq_true_eq] at h
  rw [asDir, if_pos h]
  decide +kernel
theorem as_dir_end {x : Str} (h : (x == Str.ofString "") = false) (h2 : (Txt.slice x (some (-1)) none == Str.ofString "/") = true) : x = S (asDir (Lx x)) := by
  rw [empty_lit, beq_S, decide_eq_false_iff_not] at h
  rw [slash_lit, end_eq, decide_eq_true_eq] at h2
  rw [asDir, if_neg h, if_pos h2, S_L]
theorem as_dir_add {x : Str} (h : (x == Str.ofString "") = false) (h2 : (Txt.slice x (some (-1)) none == Str.ofString "/") = false) : x ++ Str.ofString "/" = S (asDir (Lx x)) := by
  rw [empty_lit, beq_S, decide_eq_false_iff_not] at h
  rw [slash_lit, end_eq, decide_eq_false_iff_not] at h2
  rw [asDir, if_neg h, if_neg h2, app_S, slash_lit, L_S]
theorem c_is_absolute (x : Str) (t : Tok) : Ct 41 1 (x.length ≤ 10000) [.str x t] (fun _ => .bool (isAbs (Lx x))) := by
  unfold Ct
  k_fill
  w_top off
  k_with_none
  k_with "ite @" => first | with_reducible refine ite_tt ?_ | with_reducible refine ite_ff ?_
  dsimp only [CbRet]
  intro w mean mg mb news
  intros
  rename_i hp _ _ hret
  refine wpAny_call ?_
  k_dflt cell_enter
  k_steps
  · exact ret_of hret (ret_bool (abs_t (by with_reducible assumption))) (by with_reducible assumption) (by assumption)
  · exact ret_of hret (ret_bool (abs_f (by with_reducible assumption))) (by with_reducible assumption) (by assumption)
theorem cf_is_absolute (x : Str) (t : Tok) : Ct 41 1 (x.length ≤ 10000) [.str x t] (fun _ => .bool (isAbs (Lx x))) ∧ ((x.length ≤ 10000) → True) := ⟨c_is_absolute x t, fun _ => True.intro⟩
theorem c_last_part (x : Str) (t : Tok) : Ct 55 1 (x.length ≤ 10000) [.str x t] (fun t => .str (S (tw 47 (Lx x))) t) := by
  unfold Ct
  k_fill
  w_top off
  k_with_none
  k_with "ite @" => first | with_reducible refine ite_tt ?_ | with_reducible refine ite_ff ?_
  dsimp only [CbRet]
  intro w mean mg mb news
  intros
  rename_i hp _ _ hret
  refine wpAny_call ?_
  k_dflt cell_enter
  k_steps
  · exact ret_of hret (ret_str (last_part_eq x)) (by with_reducible assumption) (by assumption)
theorem cf_last_part (x : Str) (t : Tok) : Ct 55 1 (x.length ≤ 10000) [.str x t] (fun t => .str (S (tw 47 (Lx x))) t) ∧ ((x.length ≤ 10000) → (S (tw 47 (Lx x))).length ≤ x.length) := ⟨c_last_part x t, fun _ => by rw [len_S, ← len_L]; exact tw_len 47 (Lx x)⟩
theorem c_directory_part_none (x : Str) (t : Tok) : Ct 48 1 (x.length ≤ 10000 ∧ 47 ∉ Lx x) [.str x t] (fun _ => .none) := by
  unfold Ct
  k_fill
  w_top off
  k_with_none
  k_with "ite @" => first | with_reducible refine ite_tt ?_ | with_reducible refine ite_ff ?_
  dsimp only [CbRet]
  intro w mean mg mb news
  intros
  rename_i hp _ _ hret
  have hp1 := hp.1
  refine wpAny_call ?_
  k_dflt cell_enter
  k_steps
  · exact ret_of hret ⟨0, rfl⟩ (by assumption) (by assumption)
  · exact absurd (dir_none hp.2) (by assumption)
theorem cf_directory_part_none (x : Str) (t : Tok) : Ct 48 1 (x.length ≤ 10000 ∧ 47 ∉ Lx x) [.str x t] (fun _ => .none) ∧ ((x.length ≤ 10000 ∧ 47 ∉ Lx x) → True) := ⟨c_directory_part_none x t, fun _ => True.intro⟩
theorem c_directory_part_some (x : Str) (t : Tok) : Ct 48 1 (x.length ≤ 10000 ∧ 47 ∈ Lx x) [.str x t] (fun t => .str (S (dirPart (Lx x))) t) := by
  unfold Ct
  k_fill
  w_top off
  k_with_none
  k_with "ite @" => first | with_reducible refine ite_tt ?_ | with_reducible refine ite_ff ?_
  dsimp only [CbRet]
  intro w mean mg mb news
  intros
  rename_i hp _ _ hret
  have hp1 := hp.1
  refine wpAny_call ?_
  k_dflt cell_enter
  k_steps
  · exact absurd (dir_some hp.2) (by omega)
  · exact ret_of hret (ret_str (dir_eq hp.2)) (by with_reducible assumption) (by assumption)
theorem cf_directory_part_some (x : Str) (t : Tok) : Ct 48 1 (x.length ≤ 10000 ∧ 47 ∈ Lx x) [.str x t] (fun t => .str (S (dirPart (Lx x))) t) ∧ ((x.length ≤ 10000 ∧ 47 ∈ Lx x) → (S (dirPart (Lx x))).length ≤ x.length) := ⟨c_directory_part_some x t, fun _ => by rw [len_S, ← len_L]; exact dirPart_len (Lx x)⟩
theorem c_as_directory (x : Str) (t : Tok) : Ct 62 1 (x.length ≤ 10000) [.str x t] (fun t => .str (S (asDir (Lx x))) t) := by
  unfold Ct
  k_fill
  w_top off
  k_with_none
  k_with "ite @" => first | with_reducible refine ite_tt ?_ | with_reducible refine ite_ff ?_
  dsimp only [CbRet]
  intro w mean mg mb news
  intros
  rename_i hp _ _ hret
  refine wpAny_call ?_
  k_dflt cell_enter
  k_steps
  · exact ret_of hret (ret_str (as_dir_nil (by with_reducible assumption))) (by with_reducible assumption) (by assumption)
  · exact ret_of hret (ret_str (as_dir_end (by with_reducible assumption) (by with_reducible assumption))) (by with_reducible assumption) (by assumption)
  · exact ret_of hret (ret_str (as_dir_add (by with_reducible assumption) (by with_reducible assumption))) (by with_reducible assumption) (by assumption)
theorem cf_as_directory (x : Str) (t : Tok) : Ct 62 1 (x.length ≤ 10000) [.str x t] (fun t => .str (S (asDir (Lx x))) t) ∧ ((x.length ≤ 10000) → (S (asDir (Lx x))).length ≤ x.length + 2) := ⟨c_as_directory x t, fun _ => by rw [len_S, ← len_L]; exact asDir_len (Lx x)⟩
theorem as_file_step {x : Str} {e : Int} (h0 : 1 < e) (h1 : e ≤ x.length) (h2 : stripEnd (Lx x) e.toNat = stripEnd (Lx x) x.length) (h3 : (Txt.item x (e - 1) == Str.ofString "/") = true) :
    stripEnd (Lx x) (e - 1).toNat = stripEnd (Lx x) x.length := by
  rw [slash_lit, item_beq x (by omega) (by omega), decide_eq_true_eq] at h3
  rw [← h2]
  obtain ⟨n, hn⟩ : ∃ n : Nat, e = (n + 2 : Nat) := ⟨e.toNat - 2, by omega⟩
  subst hn
  have e1 : (((n + 2 : Nat) : Int) - 1).toNat = n + 1 := by omega
  have e2 : ((n + 2 : Nat) : Int).toNat = n + 2 := rfl
  rw [e1] at h3 ⊢
  rw [e2]
  simp only [stripEnd, h3, if_true]
theorem as_file_end1 {x : Str} {e : Int} (h0 : 1 < e) (h1 : e ≤ x.length) (h2 : stripEnd (Lx x) e.toNat = stripEnd (Lx x) x.length) (h3 : (Txt.item x (e - 1) == Str.ofString "/") = false) :
    Txt.slice x none (some e) = S (asFile (Lx x)) := by
  rw [slash_lit, item_beq x (by omega) (by omega), decide_eq_false_iff_not] at h3
  rw [slice_upto x (by omega)]
  unfold asFile
  rw [len_L, ← h2]
  obtain ⟨n, hn⟩ : ∃ n : Nat, e = (n + 2 : Nat) := ⟨e.toNat - 2, by omega⟩
  subst hn
  have e1 : (((n + 2 : Nat) : Int) - 1).toNat = n + 1 := by omega
  have e2 : ((n + 2 : Nat) : Int).toNat = n + 2 := rfl
  rw [e1] at h3
  rw [e2]
  simp only [stripEnd, h3, if_false]
theorem as_file_end2 {x : Str} {e : Int} (h : 0 ≤ e) (h0 : ¬ 1 < e) (h2 : stripEnd (Lx x) e.toNat = stripEnd (Lx x) x.length) :
    Txt.slice x none (some e) = S (asFile (Lx x)) := by
  rw [slice_upto x (by omega)]
  unfold asFile
  rw [len_L, ← h2]
  have : e = 0 ∨ e = 1 := by omega
  rcases this with rfl | rfl <;> rfl
theorem c_as_file (x : Str) (t : Tok) : Ct 69 1 (x.length ≤ 10000) [.str x t] (fun t => .str (S (asFile (Lx x))) t) := by
  unfold Ct
  k_fill
  w_top off
  k_with_none
  k_with "ite @" => first | with_reducible refine ite_tt ?_ | with_reducible refine ite_ff ?_
  dsimp only [CbRet]
  intro w mean mg mb news
  intros
  rename_i hp _ _ hret
  refine wpAny_call ?_
  k_dflt cell_enter
  k_with "exec While BoolOp cons nil" => k_while (fun _ e => 0 ≤ e ∧ e ≤ x.length ∧ stripEnd (Lx x) e.toNat = stripEnd (Lx x) x.length) (fun _ e => e.toNat) "end"
  k_with "state" => exact ⟨by omega, by omega, as_file_step (by assumption) (by assumption) (by assumption) (by assumption)⟩
  k_steps
  · exact ret_of hret (ret_str (as_file_end1 (by with_reducible assumption) (by with_reducible assumption) (by with_reducible assumption) (by with_reducible assumption))) (by with_reducible assumption) (by assumption)
  · exact ret_of hret (ret_str (as_file_end2 (by with_reducible assumption) (by with_reducible assumption) (by with_reducible assumption))) (by with_reducible assumption) (by assumption)
theorem cf_as_file (x : Str) (t : Tok) : Ct 69 1 (x.length ≤ 10000) [.str x t] (fun t => .str (S (asFile (Lx x))) t) ∧ ((x.length ≤ 10000) → (S (asFile (Lx x))).length ≤ x.length) := ⟨c_as_file x t, fun _ => by rw [len_S, ← len_L]; exact asFile_len (Lx x)⟩
end Mine
end
section
open PySem PySem.W PyProof.Rows
set_option maxRecDepth 100000
set_option maxHeartbeats 8000000
namespace Mine
theorem vs_start {x : Str} (h : ¬ (x.length : Int) < 2) : 0 ≤ (x.length : Int) - 1 ∧ (x.length : Int) - 1 ≤ (x.length : Int) - 1 ∧ scanBack (Lx x) ((x.length : Int) - 1).toNat = scanBack (Lx x) ((Lx x).length - 1) := by
  have hl := len_L x
  refine ⟨by omega, by omega, ?_⟩
  congr 1
  omega
theorem vs_step {x : Str} {a : Int} (h0 : 0 < a) (h1 : a ≤ (x.length : Int) - 1) (h2 : scanBack (Lx x) a.toNat = scanBack (Lx x) ((Lx x).length - 1)) (h3 : Txt.contains (Str.ofString "0123456789") (Txt.item x (a - 1)) = true) :
    0 ≤ a - 1 ∧ a - 1 ≤ (x.length : Int) - 1 ∧ scanBack (Lx x) (a - 1).toNat = scanBack (Lx x) ((Lx x).length - 1) := by
  rw [digit_eq x (by omega) (by omega)] at h3
  refine ⟨by omega, by omega, ?_⟩
  obtain ⟨n, hn⟩ : ∃ n : Nat, a = (n + 1 : Nat) := ⟨a.toNat - 1, by omega⟩
  subst hn
  have e1 : (((n + 1 : Nat) : Int) - 1).toNat = n := by omega
  have e2 : ((n + 1 : Nat) : Int).toNat = n + 1 := rfl
  rw [e1] at h3 ⊢
  rw [e2] at h2
  rw [← h2]
  simp only [scanBack, h3, if_true]
theorem digit_no {x : Str} {a : Int} (h0 : 0 ≤ a) (h1 : a < x.length) (h : (Builtin.Str.occurrences (Str.ofString "0123456789") (Txt.item x a) 0 (Str.ofString "0123456789").length 1).isEmpty = true) : isDig ((Lx x).getD a.toNat 0) = false := by
  rw [← digit_eq x h0 h1]
  unfold Txt.contains
  rw [h]
  rfl
theorem vs_stop1 {x : Str} {a : Int} (h0 : 0 < a) (h1 : a ≤ (x.length : Int) - 1) (h2 : scanBack (Lx x) a.toNat = scanBack (Lx x) ((Lx x).length - 1)) (h3 : (Builtin.Str.occurrences (Str.ofString "0123456789") (Txt.item x (a - 1)) 0 (Str.ofString "0123456789").length 1).isEmpty = true) :
    scanBack (Lx x) ((Lx x).length - 1) = a.toNat := by
  have h4 := digit_no (by omega) (by omega) h3
  rw [← h2]
  obtain ⟨n, hn⟩ : ∃ n : Nat, a = (n + 1 : Nat) := ⟨a.toNat - 1, by omega⟩
  subst hn
  have e1 : (((n + 1 : Nat) : Int) - 1).toNat = n := by omega
  have e2 : ((n + 1 : Nat) : Int).toNat = n + 1 := rfl
  rw [e1] at h4
  rw [e2]
  simp only [scanBack, h4, Bool.false_eq_true, if_false]
theorem vs_stop2 {x : Str} {a : Int} (h : 0 ≤ a) (h0 : ¬ 0 < a) (h2 : scanBack (Lx x) a.toNat = scanBack (Lx x) ((Lx x).length - 1)) : scanBack (Lx x) ((Lx x).length - 1) = a.toNat := by
  have : a = 0 := by omega
  subst this
  rw [← h2]
  rfl
theorem vs_form {x : Str} (h1 : ¬ (x.length : Int) < 2) (h2 : (Txt.item x ((x.length : Int) - 1) != Str.ofString "~") = false) : ¬ ((Lx x).length < 2 ∨ (Lx x)[(Lx x).length - 1]? ≠ some 126) := by
  have hl := len_L x
  rw [bne, tilde_lit, item_beq x (by omega) (by omega)] at h2
  have e : ((x.length : Int) - 1).toNat = (Lx x).length - 1 := by omega
  rw [e] at h2
  simp at h2
  simp [h2]
  omega
theorem vs_short {x : Str} (h1 : (x.length : Int) < 2) : (x.length : Int) = (verStart (Lx x) : Int) := by
  have hl := len_L x
  unfold verStart
  rw [if_pos (.inl (by omega)), hl]
theorem vs_other {x : Str} (h1 : ¬ (x.length : Int) < 2) (h2 : (Txt.item x ((x.length : Int) - 1) != Str.ofString "~") = true) : (x.length : Int) = (verStart (Lx x) : Int) := by
  have hl := len_L x
  rw [bne, tilde_lit, item_beq x (by omega) (by omega)] at h2
  have e : ((x.length : Int) - 1).toNat = (Lx x).length - 1 := by omega
  rw [e] at h2
  simp at h2
  unfold verStart
  rw [if_pos (.inr h2), hl]
theorem mark_lit : Str.ofString ".~" = S [46, 126] := by decide +kernel
theorem vs_cut {x : Str} {a : Int} (h0 : 2 < a) : (Txt.slice x (some (a - 2)) (some a) == Str.ofString ".~") = decide (((Lx x).drop (a.toNat - 2)).take 2 = [46, 126]) := by
  rw [mark_lit, slice_mid x (by omega) (by omega), beq_S, L_S]
  have e1 : (a - 2).toNat = a.toNat - 2 := by omega
  have e2 : a.toNat - (a.toNat - 2) = 2 := by omega
  rw [e1, e2]
theorem vs_yes {x : Str} {a : Int} (h1 : ¬ (x.length : Int) < 2) (h2 : (Txt.item x ((x.length : Int) - 1) != Str.ofString "~") = false) (hs : scanBack (Lx x) ((Lx x).length - 1) = a.toNat) (h3 : a < (x.length : Int) - 1) (h4 : 2 < a)
    (h5 : (Txt.slice x (some (a - 2)) (some a) == Str.ofString ".~") = true) : a - 2 = (verStart (Lx x) : Int) := by
  have hl := len_L x
  have hf := vs_form h1 h2
  rw [vs_cut h4, decide_eq_true_eq] at h5
  unfold verStart
  rw [if_neg hf, hs, if_pos ⟨by omega, by omega, h5⟩]
  omega
theorem vs_no1 {x : Str} {a : Int} (h1 : ¬ (x.length : Int) < 2) (h2 : (Txt.item x ((x.length : Int) - 1) != Str.ofString "~") = false) (hs : scanBack (Lx x) ((Lx x).length - 1) = a.toNat) (h4 : 2 < a)
    (h5 : (Txt.slice x (some (a - 2)) (some a) == Str.ofString ".~") = false) : (x.length : Int) - 1 = (verStart (Lx x) : Int) := by
  have hl := len_L x
  have hf := vs_form h1 h2
  rw [vs_cut h4, decide_eq_false_iff_not] at h5
  unfold verStart
  rw [if_neg hf, hs, if_neg (fun h => h5 h.2.2)]
  omega
theorem vs_no2 {x : Str} {a : Int} (h1 : ¬ (x.length : Int) < 2) (h2 : (Txt.item x ((x.length : Int) - 1) != Str.ofString "~") = false) (hs : scanBack (Lx x) ((Lx x).length - 1) = a.toNat) (h4 : ¬ 2 < a ∨ ¬ a < (x.length : Int) - 1) : (x.length : Int) - 1 = (verStart (Lx x) : Int) := by
  have hl := len_L x
  have hf := vs_form h1 h2
  unfold verStart
  rw [if_neg hf, hs, if_neg (fun h => by omega)]
  omega
theorem vs_step' {x : Str} {a : Int} (h0 : 0 < a) (h1 : a ≤ (x.length : Int) - 1) (h2 : scanBack (Lx x) a.toNat = scanBack (Lx x) ((Lx x).length - 1)) (h3 : (Builtin.Str.occurrences (Str.ofString "0123456789") (Txt.item x (a - 1)) 0 (Str.ofString "0123456789").length 1).isEmpty = false) :
    0 ≤ a - 1 ∧ a - 1 ≤ (x.length : Int) - 1 ∧ scanBack (Lx x) (a - 1).toNat = scanBack (Lx x) ((Lx x).length - 1) := vs_step h0 h1 h2 (by unfold Txt.contains; rw [h3]; rfl)
theorem ext_yes {x : Str} (h : 0 < Txt.rfind x (Str.ofString ".")) : Txt.rfind x (Str.ofString ".") = extStart (Lx x) := by
  have hl := len_L x
  rw [dot_lit, rfind_eq] at h ⊢
  unfold extStart
  rw [hl, if_pos (by omega)]
theorem ext_no {x : Str} (h : ¬ 0 < Txt.rfind x (Str.ofString ".")) : (-1 : Int) = extStart (Lx x) := by
  have hl := len_L x
  rw [dot_lit, rfind_eq] at h
  unfold extStart
  rw [hl, if_neg (by omega)]
theorem c_version_start (x : Str) (t : Tok) : Ct 76 1 (x.length ≤ 10000) [.str x t] (fun t => .int (verStart (Lx x)) t) := by
  unfold Ct
  k_fill
  w_top off
  k_with_none
  k_with "ite @" => first | with_reducible refine ite_tt ?_ | with_reducible refine ite_ff ?_
  dsimp only [CbRet]
  intro w mean mg mb news
  intros
  rename_i hp _ _ hret
  refine wpAny_call ?_
  k_dflt cell_enter
  k_with "state" => first | exact vs_start (by assumption) | exact vs_step' (by assumption) (by assumption) (by assumption) (by assumption)
  k_with "exec While BoolOp cons nil" => k_while (fun _ a => 0 ≤ a ∧ a ≤ (x.length : Int) - 1 ∧ scanBack (Lx x) a.toNat = scanBack (Lx x) ((Lx x).length - 1)) (fun _ a => a.toNat) "at"
  k_steps
  · exact ret_of hret (ret_int (vs_short (by with_reducible assumption))) (by with_reducible assumption) (by assumption)
  · exact ret_of hret (ret_int (vs_other (by with_reducible assumption) (by with_reducible assumption))) (by with_reducible assumption) (by assumption)
  · exact ret_of hret (ret_int (vs_yes (by with_reducible assumption) (by with_reducible assumption) (vs_stop1 (by with_reducible assumption) (by with_reducible assumption) (by with_reducible assumption) (by with_reducible assumption)) (by with_reducible assumption) (by with_reducible assumption) (by with_reducible assumption))) (by with_reducible assumption) (by assumption)
  · exact ret_of hret (ret_int (vs_no1 (by with_reducible assumption) (by with_reducible assumption) (vs_stop1 (by with_reducible assumption) (by with_reducible assumption) (by with_reducible assumption) (by with_reducible assumption)) (by with_reducible assumption) (by with_reducible assumption))) (by with_reducible assumption) (by assumption)
  · exact ret_of hret (ret_int (vs_no2 (by with_reducible assumption) (by with_reducible assumption) (vs_stop1 (by with_reducible assumption) (by with_reducible assumption) (by with_reducible assumption) (by with_reducible assumption)) (.inl (by with_reducible assumption)))) (by with_reducible assumption) (by assumption)
  · exact ret_of hret (ret_int (vs_no2 (by with_reducible assumption) (by with_reducible assumption) (vs_stop1 (by with_reducible assumption) (by with_reducible assumption) (by with_reducible assumption) (by with_reducible assumption)) (.inr (by with_reducible assumption)))) (by with_reducible assumption) (by assumption)
  · exact ret_of hret (ret_int (vs_no2 (by with_reducible assumption) (by with_reducible assumption) (vs_stop2 (by with_reducible assumption) (by with_reducible assumption) (by with_reducible assumption)) (.inl (by omega)))) (by with_reducible assumption) (by assumption)
theorem cf_version_start (x : Str) (t : Tok) : Ct 76 1 (x.length ≤ 10000) [.str x t] (fun t => .int (verStart (Lx x)) t) ∧ ((x.length ≤ 10000) → verStart (Lx x) ≤ x.length) := ⟨c_version_start x t, fun _ => by rw [← len_L]; exact verStart_le (Lx x)⟩
theorem extStart_le (l : List Nat) : -1 ≤ extStart l ∧ extStart l < l.length := by
  unfold extStart
  split <;> constructor <;> omega
theorem c_extension_start (x : Str) (t : Tok) : Ct 90 1 (x.length ≤ 10000) [.str x t] (fun t => .int (extStart (Lx x)) t) := by
  unfold Ct
  k_fill
  w_top off
  k_with_none
  k_with "ite @" => first | with_reducible refine ite_tt ?_ | with_reducible refine ite_ff ?_
  dsimp only [CbRet]
  intro w mean mg mb news
  intros
  rename_i hp _ _ hret
  refine wpAny_call ?_
  k_dflt cell_enter
  k_steps
  · exact ret_of hret (ret_int (ext_yes (by with_reducible assumption))) (by with_reducible assumption) (by assumption)
  · exact ret_of hret (ret_int (ext_no (by with_reducible assumption))) (by with_reducible assumption) (by assumption)
theorem cf_extension_start (x : Str) (t : Tok) : Ct 90 1 (x.length ≤ 10000) [.str x t] (fun t => .int (extStart (Lx x)) t) ∧ ((x.length ≤ 10000) → -1 ≤ extStart (Lx x) ∧ extStart (Lx x) < x.length) := ⟨c_extension_start x t, fun _ => by rw [← len_L]; exact extStart_le (Lx x)⟩
end Mine
end
section
open PySem PySem.W PyProof.Rows
set_option maxRecDepth 100000
set_option maxHeartbeats 8000000
namespace Mine
theorem stepF_len (f : List (List Nat)) (st : List Nat) : (stepF f st).length ≤ f.length + 1 := by
  unfold stepF
  split
  · simp; omega
  · split <;> simp
theorem stepsL_len (ps : List (List Nat)) : (stepsL ps).length ≤ ps.length := by
  have : ∀ (ps : List (List Nat)) (f : List (List Nat)), (ps.foldl stepF f).length ≤ f.length + ps.length := by
    intro ps
    induction ps with
    | nil => intro f; simp
    | cons p r ih =>
      intro f
      have h1 := ih (stepF f p)
      have h2 := stepF_len f p
      simp only [List.foldl_cons, List.length_cons]
      omega
  have := this ps []
  rw [List.length_nil, Nat.zero_add] at this
  exact this
theorem steps_next {ps : List (List Nat)} {i : Nat} {p : List Nat} (h : ps[i]? = some p) : stepsL (ps.take (i + 1)) = stepF (stepsL (ps.take i)) p := by
  unfold stepsL
  rw [List.take_add_one, h]
  simp
theorem map_S_get {ps : List (List Nat)} {i : Nat} {z : Str} (h : (ps.map S)[i]? = some z) : ps[i]? = some (Lx z) := by
  rw [List.getElem?_map] at h
  cases e : ps[i]? with
  | none => rw [e] at h; cases h
  | some p => rw [e] at h; cases h; rfl
structure LS where
  d : Addr
  its : List Value
  n : Nat
noncomputable def stepsP (x : Str) (D : Addr) (news : List (Addr × Obj)) (i : Nat) (c : LS) : Prop := StrsAre c.its ((stepsL ((cut 47 (Lx x)).take i)).map S) ∧ c.d ≠ D ∧ AllLt c.d news
theorem steps_size {x : Str} {i : Nat} (h : x.length ≤ 10000) : ((stepsL ((cut 47 (Lx x)).take i)).map S).length ≤ 100000 := by
  have h1 := stepsL_len ((cut 47 (Lx x)).take i)
  have h2 := cut_len 47 (Lx x)
  have h3 := len_L x
  rw [List.length_map]
  rw [List.length_take] at h1
  omega
theorem its_size {x : Str} {its : List Value} {i : Nat} (hs : StrsAre its ((stepsL ((cut 47 (Lx x)).take i)).map S)) (h : x.length ≤ 10000) : its.length ≤ 100000 := by
  rw [StrsAre.length hs]
  exact steps_size h
theorem steps_dd {x z : Str} {i : Nat} {ws : List Value} (hz : ((cut 47 (Lx x)).map S)[i]? = some z) (h1 : (z == Str.ofString "..") = true) (h : StrsAre ws ((stepsL ((cut 47 (Lx x)).take i)).map S).dropLast) :
    StrsAre ws ((stepsL ((cut 47 (Lx x)).take (i + 1))).map S) := by
  rw [steps_next (map_S_get hz)]
  have e : Lx z = [46, 46] := by rw [beq_iff_eq] at h1; rw [h1]; decide +kernel
  unfold stepF
  rw [if_pos e, List.map_dropLast]
  exact h
theorem steps_add {x z : Str} {i : Nat} {ws : List Value} {t : Tok} (hz : ((cut 47 (Lx x)).map S)[i]? = some z) (h1 : (z == Str.ofString "..") = false) (h2 : (z != Str.ofString "") = true) (h3 : (z != Str.ofString ".") = true) (h : StrsAre ws ((stepsL ((cut 47 (Lx x)).take i)).map S)) :
    StrsAre (ws ++ [.str z t]) ((stepsL ((cut 47 (Lx x)).take (i + 1))).map S) := by
  rw [steps_next (map_S_get hz)]
  have e1 : ¬ Lx z = [46, 46] := fun e => by rw [← S_L z, e] at h1; exact absurd h1 (by decide +kernel)
  have e2 : ¬ Lx z = [] := fun e => by rw [← S_L z, e] at h2; exact absurd h2 (by decide +kernel)
  have e3 : ¬ Lx z = [46] := fun e => by rw [← S_L z, e] at h3; exact absurd h3 (by decide +kernel)
  unfold stepF
  rw [if_neg e1, if_neg (by simp [e2, e3]), List.map_append]
  refine StrsAre.append' h ?_
  rw [List.map_singleton, S_L]
  exact .cons _ _ .nil
theorem steps_no {x z : Str} {i : Nat} {ws : List Value} (hz : ((cut 47 (Lx x)).map S)[i]? = some z) (h1 : (z == Str.ofString "..") = false) (h2 : (z != Str.ofString "") = false ∨ (z != Str.ofString ".") = false) (h : StrsAre ws ((stepsL ((cut 47 (Lx x)).take i)).map S)) :
    StrsAre ws ((stepsL ((cut 47 (Lx x)).take (i + 1))).map S) := by
  rw [steps_next (map_S_get hz)]
  have e1 : ¬ Lx z = [46, 46] := fun e => by rw [← S_L z, e] at h1; exact absurd h1 (by decide +kernel)
  have e2 : Lx z = [] ∨ Lx z = [46] := by
    rcases h2 with h2 | h2
    · left
      have : z = Str.ofString "" := by simpa using h2
      rw [this]; decide +kernel
    · right
      have : z = Str.ofString "." := by simpa using h2
      rw [this]; decide +kernel
  unfold stepF
  rw [if_neg e1, if_pos e2]
  exact h
theorem c_steps_of (x : Str) (t : Tok) : CtL 118 1 (x.length ≤ 10000) [.str x t] ((stepsL (cut 47 (Lx x))).map S) := by
  unfold CtL
  k_fill
  w_top off
  k_with_none
  k_with "call builtin:str.split @" => (k_here; (with_reducible show wpAny _ _ (call (Value.builtin "str.split") [_, _]) _ _ _); k_dflt (refine' split_K (c := 47) ?eq3 ?Fq3 ?Nq3 ?zq3 ?_; (case eq3 => decide +kernel); (case Fq3 => k_asm); (case Nq3 => k_asm); (case zq3 => omega)); intro D' vs' h' k' hSA' F' N' l1; (try k_sweep))
  k_with "subscriptTail Name Slice ref ref @" => (k_here; (with_reducible show wpAny _ _ (subscriptTail _ (PySem.Expr.Slice none _ none _) _ (Value.ref _)) _ _ _); k_dflt (refine' slice_butlast (by assumption) (by decide) ?Fq4 ?Nq4 ?lq4 ?zq4 ?_ ?sq4 ?tq4; (case Fq4 => k_asm); (case Nq4 => k_asm); (case lq4 => kmk_list); (case sq4 => with_unfolding_all rfl); (case tq4 => kmk_pure); (case zq4 => k_extra "size")); intro D' ws' h' hSA' F' N' l1; (try k_sweep))
  k_with "subscriptTail Name Slice ref ref @" => (k_here; (with_reducible show wpAny _ _ (subscriptTail _ (PySem.Expr.Slice _ none none _) _ (Value.ref _)) _ _ _); k_dflt (refine' slice_behind (by assumption) ?pq5 ?Fq5 ?Nq5 ?lq5 ?zq5 ?_ ?sq5 ?tq5; (case pq5 => omega); (case Fq5 => k_asm); (case Nq5 => k_asm); (case lq5 => kmk_list); (case sq5 => with_unfolding_all rfl); (case tq5 => kmk_pure); (case zq5 => k_extra "size")); intro D' ws' h' hSA' F' N' l1; (try k_sweep))
  k_with "call builtin:list.append @" => (k_here; (with_reducible show wpAny _ _ (call (Value.builtin _) [Value.ref _, _]) _ _ _); k_dflt (refine' append_S ?k1q6 ?k2q6 ?k3q6 ?zq6 ?_; (case k1q6 => k_asm); (case k2q6 => k_asm); (case k3q6 => k_upd); (case zq6 => k_extra "size")); intro h' F' N'; (try k_sweep))
  intro w mean mg mb news
  intros
  rename_i hlen _ _ hret
  refine wpAny_call ?_
  k_dflt cell_enter
  k_with "size" => first | exact steps_size hlen | exact its_size (by assumption) hlen
  k_steps
  (rename StrsAre _ _ => hsa); (rename News _ _ _ _ => nE); (rename Fr _ _ _ _ => fE); (rename AllLt _ (_ :: news) => hlt); (obtain ⟨D, hDD⟩ : ∃ D, D = D' := ⟨_, rfl⟩); subst hDD
  with_unfolding_all refine' iter_strs (nn := 0) ((fun (o9 : Obj) (c : LS) => (D, o9) :: (c.d, listOf c.its.toArray c.n) :: news) _) (fun c => [(Str.ofString "found", .ref c.d)]) [] (stepsP x D news) ⟨_, [], 0⟩ ?hh ?hl hsa fE nE ?hk ?hp ?turn ?done
  (case hh => exact rfl)
  (case hl => intro _; exact List.mem_cons_self)
  (case hk => kst_all)
  (case hp => exact ⟨.nil, Nat.ne_of_lt hlt.1, allLt_of (by assumption)⟩)
  · clear nE fE; intro i z tz c u hh tk own hz hoff hP fE nE; have kMk : KstMark := kstMark
    obtain ⟨d, its, n⟩ := c
    obtain ⟨hP1, hP2, hP3⟩ := hP
    dsimp only [kstB] at fE nE hoff hP1 hP2 hP3
    replace hP2 := neN hP2
    simp only [List.cons_append] at nE
    try k_fold
    k_steps
    · (rename Fr _ _ _ _ => fX); (rename News _ _ _ _ => nX); (rename AllLt _ (_ :: _) => l1)
      refine lp_end ⟨_, _, _⟩ fX nX (by kst_in) (by intro p hp; kst_mem) (own_new hoff l1) (by kst_all) (by kst_same) ⟨steps_dd hz (by assumption) (by assumption), ?_, ?_⟩
      · exact Nat.ne_of_gt l1.1
      · exact allLt_of fun p hp => kst_ltOf l1 p (by simp [hp])
    · (rename Fr _ _ _ _ => fX); (rename News _ _ _ _ => nX)
      refine lp_end ⟨d, its ++ [.str z tz], n + 1⟩ fX nX (by kst_in) (by intro p hp; kst_mem) hoff (by kst_all) (by kst_same) ⟨steps_add hz (by assumption) (by assumption) (by assumption) hP1, hP2, hP3⟩
    · (rename Fr _ _ _ _ => fX); (rename News _ _ _ _ => nX)
      refine lp_end ⟨_, _, _⟩ fX nX (by kst_in) (by intro p hp; kst_mem) hoff (by kst_all) (by kst_same) ⟨steps_no hz (by assumption) (.inr (by assumption)) hP1, hP2, hP3⟩
    · (rename Fr _ _ _ _ => fX); (rename News _ _ _ _ => nX)
      refine lp_end ⟨_, _, _⟩ fX nX (by kst_in) (by intro p hp; kst_mem) hoff (by kst_all) (by kst_same) ⟨steps_no hz (by assumption) (.inl (by assumption)) hP1, hP2, hP3⟩
  · clear nE fE; intro c u hh tk hP fE nE; have kMk : KstMark := kstMark
    obtain ⟨d, its, n⟩ := c
    obtain ⟨hP1, hP2, hP3⟩ := hP
    dsimp only [kstB] at fE nE hP1 hP2 hP3
    try k_fold
    k_steps
    rw [List.length_map, List.take_length] at hP1
    exact hret _ _ _ _ _ (by assumption) (by intro p hp; exact (by assumption : News _ _ _ (_ :: _ :: _)) p (.tail _ hp)) hP3 hP1
end Mine
end
section
open PySem PySem.W PyProof.Rows
set_option maxRecDepth 100000
set_option maxHeartbeats 8000000
namespace Mine
theorem dir_cut (x : Str) : Txt.slice x none (some ((x.length : Int) - (S (tw 47 (Lx x))).length)) = S (dirPart (Lx x)) := by
  have h := tw_len 47 (Lx x)
  have hl := len_L x
  rw [len_S, slice_upto x (by omega)]
  unfold dirPart
  congr 2
  omega
theorem wv_eq (x : Str) : Txt.slice x none (some ((x.length : Int) - (S (tw 47 (Lx x))).length)) ++ Txt.slice (S (tw 47 (Lx x))) none (some (verStart (Lx (S (tw 47 (Lx x)))) : Int)) = S (withoutVer (Lx x)) := by
  rw [dir_cut, slice_upto _ (by omega), app_S, L_S, L_S, L_S]
  rfl
theorem en_no {x : Str} (h : ¬ extStart (extOwn (Lx x)) < 0) (h2 : extStart (Lx (S (withoutVer (Lx (S (tw 47 (Lx x))))))) < 0) : False := h h2
theorem ex_eq {x : Str} (h : ¬ extStart (extOwn (Lx x)) < 0) : Txt.slice (S (withoutVer (Lx (S (tw 47 (Lx x)))))) (some (extStart (Lx (S (withoutVer (Lx (S (tw 47 (Lx x))))))) + 1)) none = S (extension (Lx x)) := by
  rw [L_S, L_S]
  show Txt.slice (S (extOwn (Lx x))) (some (extStart (extOwn (Lx x)) + 1)) none = _
  rw [slice_from _ (by omega), L_S]
  rfl
theorem we_no {x : Str} (h : extStart (Lx (S (withoutVer (Lx (S (tw 47 (Lx x))))))) < 0) : x = S (withoutE (Lx x)) := by
  have h' : extStart (extOwn (Lx x)) < 0 := h
  rw [withoutE, if_pos h', S_L]
theorem we_yes {x : Str} (h : ¬ extStart (Lx (S (withoutVer (Lx (S (tw 47 (Lx x))))))) < 0) :
    Txt.slice x none (some ((x.length : Int) - (S (tw 47 (Lx x))).length)) ++ Txt.slice (S (withoutVer (Lx (S (tw 47 (Lx x)))))) none (some (extStart (Lx (S (withoutVer (Lx (S (tw 47 (Lx x))))))))) = S (withoutE (Lx x)) := by
  have h' : ¬ extStart (extOwn (Lx x)) < 0 := h
  rw [withoutE, if_neg h', dir_cut]
  rw [L_S, L_S]
  show S (dirPart (Lx x)) ++ Txt.slice (S (extOwn (Lx x))) none (some (extStart (extOwn (Lx x)))) = _
  rw [slice_upto _ (by omega), app_S, L_S, L_S, L_S]
  rfl
theorem ib_eq (x : Str) : decide ((verStart (Lx (S (tw 47 (Lx x)))) : Int) < (S (tw 47 (Lx x))).length) = isBackup (Lx x) := by
  rw [L_S, len_S]
  unfold isBackup
  simp
theorem c_without_version (x : Str) (t : Tok) : Ct 83 2 (x.length ≤ 10000) [.str x t] (fun t => .str (S (withoutVer (Lx x))) t) := by
  unfold Ct
  k_fill
  w_top off
  k_with_none
  k_with "ite @" => first | with_reducible refine ite_tt ?_ | with_reducible refine ite_ff ?_
  k_with "call ref @" => (k_here; (with_reducible show wpAny _ _ (call (Value.ref 55) _) _ _ _); k_dflt (refine' Ct.useF (cf_last_part _ _) ?k1q8 ?k2q8 ?k3q8 ?k4q8 ?k5q8 ?kKq8 ?kpq8 ?kdq8 ?kuq8 ?_; (case k1q8 => k_asm); (case k2q8 => k_asm); (case k3q8 => k_asm); (case k4q8 => k_asm); (case k5q8 => k_asm); (case kKq8 => first | exact rfl | assumption); (case kpq8 => first | omega | k_extra "size"); (case kdq8 => ktr_room); (case kuq8 => ktr_units)); intro hf9 t9 h9 tk9 F9 N9; (try dsimp only); (try k_sweep))
  k_with "call ref @" => (k_here; (with_reducible show wpAny _ _ (call (Value.ref 76) _) _ _ _); k_dflt (refine' Ct.useF (cf_version_start _ _) ?k1q9 ?k2q9 ?k3q9 ?k4q9 ?k5q9 ?kKq9 ?kpq9 ?kdq9 ?kuq9 ?_; (case k1q9 => k_asm); (case k2q9 => k_asm); (case k3q9 => k_asm); (case k4q9 => k_asm); (case k5q9 => k_asm); (case kKq9 => first | exact rfl | assumption); (case kpq9 => first | omega | k_extra "size"); (case kdq9 => ktr_room); (case kuq9 => ktr_units)); intro hf9 t9 h9 tk9 F9 N9; (try dsimp only); (try k_sweep))
  k_with "call ref @" => (k_here; (with_reducible show wpAny _ _ (call (Value.ref 90) _) _ _ _); k_dflt (refine' Ct.useF (cf_extension_start _ _) ?k1q10 ?k2q10 ?k3q10 ?k4q10 ?k5q10 ?kKq10 ?kpq10 ?kdq10 ?kuq10 ?_; (case k1q10 => k_asm); (case k2q10 => k_asm); (case k3q10 => k_asm); (case k4q10 => k_asm); (case k5q10 => k_asm); (case kKq10 => first | exact rfl | assumption); (case kpq10 => first | omega | k_extra "size"); (case kdq10 => ktr_room); (case kuq10 => ktr_units)); intro hf9 t9 h9 tk9 F9 N9; (try dsimp only); (try k_sweep))
  dsimp only [CbRet]
  intro w mean mg mb news
  intros
  rename_i hp _ _ hret
  refine wpAny_call ?_
  k_dflt cell_enter
  k_steps
  · exact ret_of hret (ret_str (wv_eq x)) (by with_reducible assumption) (by assumption)
theorem cf_without_version (x : Str) (t : Tok) : Ct 83 2 (x.length ≤ 10000) [.str x t] (fun t => .str (S (withoutVer (Lx x))) t) ∧ ((x.length ≤ 10000) → (S (withoutVer (Lx x))).length ≤ x.length) := ⟨c_without_version x t, fun _ => by rw [len_S, ← len_L]; exact withoutVer_len (Lx x)⟩
theorem c_extension_none (x : Str) (t : Tok) : Ct 97 3 (x.length ≤ 10000 ∧ extStart (extOwn (Lx x)) < 0) [.str x t] (fun _ => .none) := by
  unfold Ct
  k_fill
  w_top off
  k_with_none
  k_with "ite @" => first | with_reducible refine ite_tt ?_ | with_reducible refine ite_ff ?_
  k_with "call ref @" => (k_here; (with_reducible show wpAny _ _ (call (Value.ref 55) _) _ _ _); k_dflt (refine' Ct.useF (cf_last_part _ _) ?k1q8 ?k2q8 ?k3q8 ?k4q8 ?k5q8 ?kKq8 ?kpq8 ?kdq8 ?kuq8 ?_; (case k1q8 => k_asm); (case k2q8 => k_asm); (case k3q8 => k_asm); (case k4q8 => k_asm); (case k5q8 => k_asm); (case kKq8 => first | exact rfl | assumption); (case kpq8 => first | omega | k_extra "size"); (case kdq8 => ktr_room); (case kuq8 => ktr_units)); intro hf9 t9 h9 tk9 F9 N9; (try dsimp only); (try k_sweep))
  k_with "call ref @" => (k_here; (with_reducible show wpAny _ _ (call (Value.ref 76) _) _ _ _); k_dflt (refine' Ct.useF (cf_version_start _ _) ?k1q9 ?k2q9 ?k3q9 ?k4q9 ?k5q9 ?kKq9 ?kpq9 ?kdq9 ?kuq9 ?_; (case k1q9 => k_asm); (case k2q9 => k_asm); (case k3q9 => k_asm); (case k4q9 => k_asm); (case k5q9 => k_asm); (case kKq9 => first | exact rfl | assumption); (case kpq9 => first | omega | k_extra "size"); (case kdq9 => ktr_room); (case kuq9 => ktr_units)); intro hf9 t9 h9 tk9 F9 N9; (try dsimp only); (try k_sweep))
  k_with "call ref @" => (k_here; (with_reducible show wpAny _ _ (call (Value.ref 90) _) _ _ _); k_dflt (refine' Ct.useF (cf_extension_start _ _) ?k1q10 ?k2q10 ?k3q10 ?k4q10 ?k5q10 ?kKq10 ?kpq10 ?kdq10 ?kuq10 ?_; (case k1q10 => k_asm); (case k2q10 => k_asm); (case k3q10 => k_asm); (case k4q10 => k_asm); (case k5q10 => k_asm); (case kKq10 => first | exact rfl | assumption); (case kpq10 => first | omega | k_extra "size"); (case kdq10 => ktr_room); (case kuq10 => ktr_units)); intro hf9 t9 h9 tk9 F9 N9; (try dsimp only); (try k_sweep))
  k_with "call ref @" => (k_here; (with_reducible show wpAny _ _ (call (Value.ref 83) _) _ _ _); k_dflt (refine' Ct.useF (cf_without_version _ _) ?k1q11 ?k2q11 ?k3q11 ?k4q11 ?k5q11 ?kKq11 ?kpq11 ?kdq11 ?kuq11 ?_; (case k1q11 => k_asm); (case k2q11 => k_asm); (case k3q11 => k_asm); (case k4q11 => k_asm); (case k5q11 => k_asm); (case kKq11 => first | exact rfl | assumption); (case kpq11 => first | omega | k_extra "size"); (case kdq11 => ktr_room); (case kuq11 => ktr_units)); intro hf9 t9 h9 tk9 F9 N9; (try dsimp only); (try k_sweep))
  dsimp only [CbRet]
  intro w mean mg mb news
  intros
  rename_i hp _ _ hret
  have hp1 := hp.1
  refine wpAny_call ?_
  k_dflt cell_enter
  k_steps
  · exact ret_of hret ⟨0, rfl⟩ (by assumption) (by assumption)
  · exact absurd hp.2 (by assumption)
theorem cf_extension_none (x : Str) (t : Tok) : Ct 97 3 (x.length ≤ 10000 ∧ extStart (extOwn (Lx x)) < 0) [.str x t] (fun _ => .none) ∧ ((x.length ≤ 10000 ∧ extStart (extOwn (Lx x)) < 0) → True) := ⟨c_extension_none x t, fun _ => True.intro⟩
theorem c_extension_some (x : Str) (t : Tok) : Ct 97 3 (x.length ≤ 10000 ∧ ¬ extStart (extOwn (Lx x)) < 0) [.str x t] (fun t => .str (S (extension (Lx x))) t) := by
  unfold Ct
  k_fill
  w_top off
  k_with_none
  k_with "ite @" => first | with_reducible refine ite_tt ?_ | with_reducible refine ite_ff ?_
  k_with "call ref @" => (k_here; (with_reducible show wpAny _ _ (call (Value.ref 55) _) _ _ _); k_dflt (refine' Ct.useF (cf_last_part _ _) ?k1q8 ?k2q8 ?k3q8 ?k4q8 ?k5q8 ?kKq8 ?kpq8 ?kdq8 ?kuq8 ?_; (case k1q8 => k_asm); (case k2q8 => k_asm); (case k3q8 => k_asm); (case k4q8 => k_asm); (case k5q8 => k_asm); (case kKq8 => first | exact rfl | assumption); (case kpq8 => first | omega | k_extra "size"); (case kdq8 => ktr_room); (case kuq8 => ktr_units)); intro hf9 t9 h9 tk9 F9 N9; (try dsimp only); (try k_sweep))
  k_with "call ref @" => (k_here; (with_reducible show wpAny _ _ (call (Value.ref 76) _) _ _ _); k_dflt (refine' Ct.useF (cf_version_start _ _) ?k1q9 ?k2q9 ?k3q9 ?k4q9 ?k5q9 ?kKq9 ?kpq9 ?kdq9 ?kuq9 ?_; (case k1q9 => k_asm); (case k2q9 => k_asm); (case k3q9 => k_asm); (case k4q9 => k_asm); (case k5q9 => k_asm); (case kKq9 => first | exact rfl | assumption); (case kpq9 => first | omega | k_extra "size"); (case kdq9 => ktr_room); (case kuq9 => ktr_units)); intro hf9 t9 h9 tk9 F9 N9; (try dsimp only); (try k_sweep))
  k_with "call ref @" => (k_here; (with_reducible show wpAny _ _ (call (Value.ref 90) _) _ _ _); k_dflt (refine' Ct.useF (cf_extension_start _ _) ?k1q10 ?k2q10 ?k3q10 ?k4q10 ?k5q10 ?kKq10 ?kpq10 ?kdq10 ?kuq10 ?_; (case k1q10 => k_asm); (case k2q10 => k_asm); (case k3q10 => k_asm); (case k4q10 => k_asm); (case k5q10 => k_asm); (case kKq10 => first | exact rfl | assumption); (case kpq10 => first | omega | k_extra "size"); (case kdq10 => ktr_room); (case kuq10 => ktr_units)); intro hf9 t9 h9 tk9 F9 N9; (try dsimp only); (try k_sweep))
  k_with "call ref @" => (k_here; (with_reducible show wpAny _ _ (call (Value.ref 83) _) _ _ _); k_dflt (refine' Ct.useF (cf_without_version _ _) ?k1q11 ?k2q11 ?k3q11 ?k4q11 ?k5q11 ?kKq11 ?kpq11 ?kdq11 ?kuq11 ?_; (case k1q11 => k_asm); (case k2q11 => k_asm); (case k3q11 => k_asm); (case k4q11 => k_asm); (case k5q11 => k_asm); (case kKq11 => first | exact rfl | assumption); (case kpq11 => first | omega | k_extra "size"); (case kdq11 => ktr_room); (case kuq11 => ktr_units)); intro hf9 t9 h9 tk9 F9 N9; (try dsimp only); (try k_sweep))
  dsimp only [CbRet]
  intro w mean mg mb news
  intros
  rename_i hp _ _ hret
  have hp1 := hp.1
  refine wpAny_call ?_
  k_dflt cell_enter
  k_steps
  · exact (en_no hp.2 (by assumption)).elim
  · exact ret_of hret (ret_str (ex_eq hp.2)) (by with_reducible assumption) (by assumption)
theorem cf_extension_some (x : Str) (t : Tok) : Ct 97 3 (x.length ≤ 10000 ∧ ¬ extStart (extOwn (Lx x)) < 0) [.str x t] (fun t => .str (S (extension (Lx x))) t) ∧ ((x.length ≤ 10000 ∧ ¬ extStart (extOwn (Lx x)) < 0) → (S (extension (Lx x))).length ≤ x.length) := ⟨c_extension_some x t, fun _ => by rw [len_S, ← len_L]; exact extension_len (Lx x)⟩
theorem c_without_extension (x : Str) (t : Tok) : Ct 104 3 (x.length ≤ 10000) [.str x t] (fun t => .str (S (withoutE (Lx x))) t) := by
  unfold Ct
  k_fill
  w_top off
  k_with_none
  k_with "ite @" => first | with_reducible refine ite_tt ?_ | with_reducible refine ite_ff ?_
  k_with "call ref @" => (k_here; (with_reducible show wpAny _ _ (call (Value.ref 55) _) _ _ _); k_dflt (refine' Ct.useF (cf_last_part _ _) ?k1q8 ?k2q8 ?k3q8 ?k4q8 ?k5q8 ?kKq8 ?kpq8 ?kdq8 ?kuq8 ?_; (case k1q8 => k_asm); (case k2q8 => k_asm); (case k3q8 => k_asm); (case k4q8 => k_asm); (case k5q8 => k_asm); (case kKq8 => first | exact rfl | assumption); (case kpq8 => first | omega | k_extra "size"); (case kdq8 => ktr_room); (case kuq8 => ktr_units)); intro hf9 t9 h9 tk9 F9 N9; (try dsimp only); (try k_sweep))
  k_with "call ref @" => (k_here; (with_reducible show wpAny _ _ (call (Value.ref 76) _) _ _ _); k_dflt (refine' Ct.useF (cf_version_start _ _) ?k1q9 ?k2q9 ?k3q9 ?k4q9 ?k5q9 ?kKq9 ?kpq9 ?kdq9 ?kuq9 ?_; (case k1q9 => k_asm); (case k2q9 => k_asm); (case k3q9 => k_asm); (case k4q9 => k_asm); (case k5q9 => k_asm); (case kKq9 => first | exact rfl | assumption); (case kpq9 => first | omega | k_extra "size"); (case kdq9 => ktr_room); (case kuq9 => ktr_units)); intro hf9 t9 h9 tk9 F9 N9; (try dsimp only); (try k_sweep))
  k_with "call ref @" => (k_here; (with_reducible show wpAny _ _ (call (Value.ref 90) _) _ _ _); k_dflt (refine' Ct.useF (cf_extension_start _ _) ?k1q10 ?k2q10 ?k3q10 ?k4q10 ?k5q10 ?kKq10 ?kpq10 ?kdq10 ?kuq10 ?_; (case k1q10 => k_asm); (case k2q10 => k_asm); (case k3q10 => k_asm); (case k4q10 => k_asm); (case k5q10 => k_asm); (case kKq10 => first | exact rfl | assumption); (case kpq10 => first | omega | k_extra "size"); (case kdq10 => ktr_room); (case kuq10 => ktr_units)); intro hf9 t9 h9 tk9 F9 N9; (try dsimp only); (try k_sweep))
  k_with "call ref @" => (k_here; (with_reducible show wpAny _ _ (call (Value.ref 83) _) _ _ _); k_dflt (refine' Ct.useF (cf_without_version _ _) ?k1q11 ?k2q11 ?k3q11 ?k4q11 ?k5q11 ?kKq11 ?kpq11 ?kdq11 ?kuq11 ?_; (case k1q11 => k_asm); (case k2q11 => k_asm); (case k3q11 => k_asm); (case k4q11 => k_asm); (case k5q11 => k_asm); (case kKq11 => first | exact rfl | assumption); (case kpq11 => first | omega | k_extra "size"); (case kdq11 => ktr_room); (case kuq11 => ktr_units)); intro hf9 t9 h9 tk9 F9 N9; (try dsimp only); (try k_sweep))
  dsimp only [CbRet]
  intro w mean mg mb news
  intros
  rename_i hp _ _ hret
  refine wpAny_call ?_
  k_dflt cell_enter
  k_steps
  · exact ret_of hret (ret_str (we_no (by with_reducible assumption))) (by with_reducible assumption) (by assumption)
  · exact ret_of hret (ret_str (we_yes (by with_reducible assumption))) (by with_reducible assumption) (by assumption)
theorem cf_without_extension (x : Str) (t : Tok) : Ct 104 3 (x.length ≤ 10000) [.str x t] (fun t => .str (S (withoutE (Lx x))) t) ∧ ((x.length ≤ 10000) → (S (withoutE (Lx x))).length ≤ x.length) := ⟨c_without_extension x t, fun _ => by rw [len_S, ← len_L]; exact withoutExt_len (Lx x)⟩
theorem c_is_backup_name (x : Str) (t : Tok) : Ct 188 2 (x.length ≤ 10000) [.str x t] (fun _ => .bool (isBackup (Lx x))) := by
  unfold Ct
  k_fill
  w_top off
  k_with_none
  k_with "ite @" => first | with_reducible refine ite_tt ?_ | with_reducible refine ite_ff ?_
  k_with "call ref @" => (k_here; (with_reducible show wpAny _ _ (call (Value.ref 55) _) _ _ _); k_dflt (refine' Ct.useF (cf_last_part _ _) ?k1q8 ?k2q8 ?k3q8 ?k4q8 ?k5q8 ?kKq8 ?kpq8 ?kdq8 ?kuq8 ?_; (case k1q8 => k_asm); (case k2q8 => k_asm); (case k3q8 => k_asm); (case k4q8 => k_asm); (case k5q8 => k_asm); (case kKq8 => first | exact rfl | assumption); (case kpq8 => first | omega | k_extra "size"); (case kdq8 => ktr_room); (case kuq8 => ktr_units)); intro hf9 t9 h9 tk9 F9 N9; (try dsimp only); (try k_sweep))
  k_with "call ref @" => (k_here; (with_reducible show wpAny _ _ (call (Value.ref 76) _) _ _ _); k_dflt (refine' Ct.useF (cf_version_start _ _) ?k1q9 ?k2q9 ?k3q9 ?k4q9 ?k5q9 ?kKq9 ?kpq9 ?kdq9 ?kuq9 ?_; (case k1q9 => k_asm); (case k2q9 => k_asm); (case k3q9 => k_asm); (case k4q9 => k_asm); (case k5q9 => k_asm); (case kKq9 => first | exact rfl | assumption); (case kpq9 => first | omega | k_extra "size"); (case kdq9 => ktr_room); (case kuq9 => ktr_units)); intro hf9 t9 h9 tk9 F9 N9; (try dsimp only); (try k_sweep))
  k_with "call ref @" => (k_here; (with_reducible show wpAny _ _ (call (Value.ref 90) _) _ _ _); k_dflt (refine' Ct.useF (cf_extension_start _ _) ?k1q10 ?k2q10 ?k3q10 ?k4q10 ?k5q10 ?kKq10 ?kpq10 ?kdq10 ?kuq10 ?_; (case k1q10 => k_asm); (case k2q10 => k_asm); (case k3q10 => k_asm); (case k4q10 => k_asm); (case k5q10 => k_asm); (case kKq10 => first | exact rfl | assumption); (case kpq10 => first | omega | k_extra "size"); (case kdq10 => ktr_room); (case kuq10 => ktr_units)); intro hf9 t9 h9 tk9 F9 N9; (try dsimp only); (try k_sweep))
  k_with "call ref @" => (k_here; (with_reducible show wpAny _ _ (call (Value.ref 83) _) _ _ _); k_dflt (refine' Ct.useF (cf_without_version _ _) ?k1q11 ?k2q11 ?k3q11 ?k4q11 ?k5q11 ?kKq11 ?kpq11 ?kdq11 ?kuq11 ?_; (case k1q11 => k_asm); (case k2q11 => k_asm); (case k3q11 => k_asm); (case k4q11 => k_asm); (case k5q11 => k_asm); (case kKq11 => first | exact rfl | assumption); (case kpq11 => first | omega | k_extra "size"); (case kdq11 => ktr_room); (case kuq11 => ktr_units)); intro hf9 t9 h9 tk9 F9 N9; (try dsimp only); (try k_sweep))
  dsimp only [CbRet]
  intro w mean mg mb news
  intros
  rename_i hp _ _ hret
  refine wpAny_call ?_
  k_dflt cell_enter
  k_steps
  · exact ret_of hret (ret_bool (ib_eq x)) (by with_reducible assumption) (by assumption)
theorem cf_is_backup_name (x : Str) (t : Tok) : Ct 188 2 (x.length ≤ 10000) [.str x t] (fun _ => .bool (isBackup (Lx x))) ∧ ((x.length ≤ 10000) → True) := ⟨c_is_backup_name x t, fun _ => True.intro⟩
end Mine
end
section
open PySem PySem.W PyProof.Rows
set_option maxRecDepth 100000
set_option maxHeartbeats 8000000
namespace Mine
theorem home_lit : Str.ofString "~/" = S [126, 47] := by decide +kernel
theorem hash_lit : Str.ofString "#" = S [35] := by decide +kernel
theorem lock_lit : Str.ofString ".#" = S [46, 35] := by decide +kernel
theorem wh_1 {x : Str} (h1 : (x == Str.ofString "~") = true ∨ (Txt.slice x none (some 2) == Str.ofString "~/") = true) : Lx x = [126] ∨ (Lx x).take 2 = [126, 47] := by
  rcases h1 with h | h
  · rw [tilde_lit, beq_S, decide_eq_true_eq] at h; exact .inl h
  · rw [home_lit, beq_S, slice_upto x (by decide), L_S, decide_eq_true_eq] at h; exact .inr h
theorem wh_a {x y : Str} (h1 : (x == Str.ofString "~") = true ∨ (Txt.slice x none (some 2) == Str.ofString "~/") = true) (h2 : (S (asFile (Lx y)) != Str.ofString "/") = true) :
    S (asFile (Lx y)) ++ Txt.slice x (some 1) none = S (withHome (Lx x) (Lx y)) := by
  rw [slash_lit, bne_S, L_S, decide_eq_true_eq] at h2
  rw [withHome, if_pos (wh_1 h1), if_pos h2, slice_from x (by decide), app_S, L_S, L_S]
  rfl
theorem wh_b {x y : Str} (h1 : (x == Str.ofString "~") = true ∨ (Txt.slice x none (some 2) == Str.ofString "~/") = true) (h2 : (S (asFile (Lx y)) != Str.ofString "/") = false) :
    Str.ofString "/" ++ Txt.slice x (some 2) none = S (withHome (Lx x) (Lx y)) := by
  rw [slash_lit, bne_S, L_S, decide_eq_false_iff_not] at h2
  rw [withHome, if_pos (wh_1 h1), if_neg h2, slice_from x (by decide), app_S, slash_lit, L_S, L_S]
  rfl
theorem wh_c {x y : Str} (h1 : (x == Str.ofString "~") = false) (h2 : (Txt.slice x none (some 2) == Str.ofString "~/") = false) : x = S (withHome (Lx x) (Lx y)) := by
  rw [tilde_lit, beq_S, decide_eq_false_iff_not] at h1
  rw [home_lit, beq_S, slice_upto x (by decide), L_S, decide_eq_false_iff_not] at h2
  rw [withHome, if_neg, S_L]
  intro h
  exact h.elim h1 h2
theorem bn_eq (x : Str) : x ++ Str.ofString "~" = S (Lx x ++ [126]) := by rw [app_S, tilde_lit, L_S]
theorem as_eq (x : Str) : Txt.slice x none (some ((x.length : Int) - (S (tw 47 (Lx x))).length)) ++ Str.ofString "#" ++ S (tw 47 (Lx x)) ++ Str.ofString "#" = S (dirPart (Lx x) ++ 35 :: tw 47 (Lx x) ++ [35]) := by
  rw [dir_cut, hash_lit]
  simp only [app_S, L_S]
  congr 1
  simp
theorem lk_eq (x : Str) : Txt.slice x none (some ((x.length : Int) - (S (tw 47 (Lx x))).length)) ++ Str.ofString ".#" ++ S (tw 47 (Lx x)) = S (dirPart (Lx x) ++ [46, 35] ++ tw 47 (Lx x)) := by
  rw [dir_cut, lock_lit]
  simp only [app_S, L_S]
theorem drop_last_one {l : List Nat} (h : 0 < l.length) : l.drop (l.length - 1) = [l.getD (l.length - 1) 0] := by
  rw [List.drop_eq_getElem_cons (by omega)]
  have : l.length - 1 + 1 = l.length := by omega
  rw [this, List.drop_length, List.getD_eq_getElem?_getD, List.getElem?_eq_getElem (by omega)]
  rfl
theorem item_last {l : List Nat} (h : 0 < l.length) : Txt.item (S l) (-1) = S (l.drop (l.length - 1)) := by
  rw [drop_last_one h]
  unfold Txt.item Txt.charAt
  rw [seqIndex_neg (k := -1) (n := (S l).length) (by decide) (by rw [len_S]; omega), len_S]
  have e : ((-1 : Int) + (l.length : Int)).toNat = l.length - 1 := by omega
  rw [e]
  simp [S, List.getD_eq_getElem?_getD]
theorem ia_a {x : Str} (h1 : 2 < ((S (tw 47 (Lx x))).length : Int)) (h2 : (Txt.item (S (tw 47 (Lx x))) 0 == Str.ofString "#") = true) :
    (Txt.item (S (tw 47 (Lx x))) (-1) == Str.ofString "#") = isAuto (tw 47 (Lx x)) := by
  generalize tw 47 (Lx x) = l at *
  rw [len_S] at h1
  rw [hash_lit, item_beq _ (by decide) (by rw [len_S]; omega), L_S, decide_eq_true_eq] at h2
  rw [item_last (by omega), hash_lit, beq_S, L_S]
  unfold isAuto
  have h1' : 2 < l.length := by omega
  have h2' : l[0]? = some 35 := h2
  simp [h1', h2']
theorem ia_b {x : Str} (h1 : 2 < ((S (tw 47 (Lx x))).length : Int)) (h2 : (Txt.item (S (tw 47 (Lx x))) 0 == Str.ofString "#") = false) :
    (Txt.item (S (tw 47 (Lx x))) 0 == Str.ofString "#") = isAuto (tw 47 (Lx x)) := by
  rw [h2]
  generalize tw 47 (Lx x) = l at *
  rw [len_S] at h1
  rw [hash_lit, item_beq _ (by decide) (by rw [len_S]; omega), L_S, decide_eq_false_iff_not] at h2
  unfold isAuto
  have h2' : ¬ l[0]? = some 35 := h2
  simp [h2']
theorem ia_c {x : Str} (h1 : ¬ 2 < ((S (tw 47 (Lx x))).length : Int)) : decide (2 < ((S (tw 47 (Lx x))).length : Int)) = isAuto (tw 47 (Lx x)) := by
  generalize tw 47 (Lx x) = l at *
  rw [len_S] at h1 ⊢
  unfold isAuto
  have h1' : ¬ 2 < l.length := by omega
  rw [decide_eq_false h1, decide_eq_false h1', Bool.false_and]
theorem ab_a {x y : Str} (h : (S (asFile (Lx y)) == Str.ofString "/") = true) : x = S (abbr (Lx x) (Lx y)) := by
  rw [slash_lit, beq_S, L_S, decide_eq_true_eq] at h
  rw [abbr, if_pos h, S_L]
theorem ab_b {x y : Str} (h : (S (asFile (Lx y)) == Str.ofString "/") = false) (h2 : (x == S (asFile (Lx y))) = true) : Str.ofString "~" = S (abbr (Lx x) (Lx y)) := by
  rw [slash_lit, beq_S, L_S, decide_eq_false_iff_not] at h
  rw [beq_S, decide_eq_true_eq] at h2
  rw [abbr, if_neg h, if_pos h2, tilde_lit]
theorem ab_cut (x y : Str) : (Txt.slice x none (some (((S (asFile (Lx y))).length : Int) + 1)) == S (asFile (Lx y)) ++ Str.ofString "/") = decide ((Lx x).take ((asFile (Lx y)).length + 1) = asFile (Lx y) ++ [47]) := by
  rw [slice_upto x (by omega), app_S, slash_lit, L_S, L_S, beq_S, L_S, len_S]
  have e : (((asFile (Lx y)).length : Int) + 1).toNat = (asFile (Lx y)).length + 1 := by omega
  rw [e]
theorem ab_c {x y : Str} (h : (S (asFile (Lx y)) == Str.ofString "/") = false) (h2 : (x == S (asFile (Lx y))) = false) (h3 : (Txt.slice x none (some (((S (asFile (Lx y))).length : Int) + 1)) == S (asFile (Lx y)) ++ Str.ofString "/") = true) :
    Str.ofString "~" ++ Txt.slice x (some ((S (asFile (Lx y))).length : Int)) none = S (abbr (Lx x) (Lx y)) := by
  rw [slash_lit, beq_S, L_S, decide_eq_false_iff_not] at h
  rw [beq_S, decide_eq_false_iff_not] at h2
  rw [ab_cut, decide_eq_true_eq] at h3
  rw [abbr, if_neg h, if_neg h2, if_pos h3, slice_from x (by omega), app_S, tilde_lit, L_S, L_S, len_S]
  rfl
theorem ab_d {x y : Str} (h : (S (asFile (Lx y)) == Str.ofString "/") = false) (h2 : (x == S (asFile (Lx y))) = false) (h3 : (Txt.slice x none (some (((S (asFile (Lx y))).length : Int) + 1)) == S (asFile (Lx y)) ++ Str.ofString "/") = false) : x = S (abbr (Lx x) (Lx y)) := by
  rw [slash_lit, beq_S, L_S, decide_eq_false_iff_not] at h
  rw [beq_S, decide_eq_false_iff_not] at h2
  rw [ab_cut, decide_eq_false_iff_not] at h3
  rw [abbr, if_neg h, if_neg h2, if_neg h3, S_L]
theorem nn_eq (x : Str) (k : Int) : x ++ Str.ofString ".~" ++ Str.ofString (toString k) ++ Str.ofString "~" = S (numbered (Lx x) k) := by
  rw [mark_lit, tilde_lit]
  simp only [app_S, L_S]
  rfl
theorem c_with_home (x y : Str) (t u : Tok) : Ct 111 2 (x.length ≤ 10000 ∧ y.length ≤ 10000) [.str x t, .str y u] (fun t => .str (S (withHome (Lx x) (Lx y))) t) := by
  unfold Ct
  k_fill
  w_top off
  k_with_none
  k_with "ite @" => first | with_reducible refine ite_tt ?_ | with_reducible refine ite_ff ?_
  k_with "call ref @" => (k_here; (with_reducible show wpAny _ _ (call (Value.ref 69) _) _ _ _); k_dflt (refine' Ct.useF (cf_as_file _ _) ?k1q13 ?k2q13 ?k3q13 ?k4q13 ?k5q13 ?kKq13 ?kpq13 ?kdq13 ?kuq13 ?_; (case k1q13 => k_asm); (case k2q13 => k_asm); (case k3q13 => k_asm); (case k4q13 => k_asm); (case k5q13 => k_asm); (case kKq13 => first | exact rfl | assumption); (case kpq13 => first | omega | k_extra "size"); (case kdq13 => ktr_room); (case kuq13 => ktr_units)); intro hf9 t9 h9 tk9 F9 N9; (try dsimp only); (try k_sweep))
  k_with "call ref @" => (k_here; (with_reducible show wpAny _ _ (call (Value.ref 55) _) _ _ _); k_dflt (refine' Ct.useF (cf_last_part _ _) ?k1q14 ?k2q14 ?k3q14 ?k4q14 ?k5q14 ?kKq14 ?kpq14 ?kdq14 ?kuq14 ?_; (case k1q14 => k_asm); (case k2q14 => k_asm); (case k3q14 => k_asm); (case k4q14 => k_asm); (case k5q14 => k_asm); (case kKq14 => first | exact rfl | assumption); (case kpq14 => first | omega | k_extra "size"); (case kdq14 => ktr_room); (case kuq14 => ktr_units)); intro hf9 t9 h9 tk9 F9 N9; (try dsimp only); (try k_sweep))
  dsimp only [CbRet]
  intro w mean mg mb news
  intros
  rename_i hp _ _ hret
  have hp1 := hp.1
  have hp2 := hp.2
  refine wpAny_call ?_
  k_dflt cell_enter
  k_steps
  · exact ret_of hret (ret_str (wh_a (.inl (by with_reducible assumption)) (by with_reducible assumption))) (by with_reducible assumption) (by assumption)
  · exact ret_of hret (ret_str (wh_b (.inl (by with_reducible assumption)) (by with_reducible assumption))) (by with_reducible assumption) (by assumption)
  · exact ret_of hret (ret_str (wh_a (.inr (by with_reducible assumption)) (by with_reducible assumption))) (by with_reducible assumption) (by assumption)
  · exact ret_of hret (ret_str (wh_b (.inr (by with_reducible assumption)) (by with_reducible assumption))) (by with_reducible assumption) (by assumption)
  · exact ret_of hret (ret_str (wh_c (by with_reducible assumption) (by with_reducible assumption))) (by with_reducible assumption) (by assumption)
theorem cf_with_home (x y : Str) (t u : Tok) : Ct 111 2 (x.length ≤ 10000 ∧ y.length ≤ 10000) [.str x t, .str y u] (fun t => .str (S (withHome (Lx x) (Lx y))) t) ∧ ((x.length ≤ 10000 ∧ y.length ≤ 10000) → (S (withHome (Lx x) (Lx y))).length ≤ x.length + y.length + 1) := ⟨c_with_home x y t u, fun _ => by rw [len_S, ← len_L x, ← len_L y]; exact withHome_len (Lx x) (Lx y)⟩
theorem c_backup_name (x : Str) (t : Tok) : Ct 167 1 (x.length ≤ 10000) [.str x t] (fun t => .str (S (Lx x ++ [126])) t) := by
  unfold Ct
  k_fill
  w_top off
  k_with_none
  k_with "ite @" => first | with_reducible refine ite_tt ?_ | with_reducible refine ite_ff ?_
  k_with "call ref @" => (k_here; (with_reducible show wpAny _ _ (call (Value.ref 69) _) _ _ _); k_dflt (refine' Ct.useF (cf_as_file _ _) ?k1q13 ?k2q13 ?k3q13 ?k4q13 ?k5q13 ?kKq13 ?kpq13 ?kdq13 ?kuq13 ?_; (case k1q13 => k_asm); (case k2q13 => k_asm); (case k3q13 => k_asm); (case k4q13 => k_asm); (case k5q13 => k_asm); (case kKq13 => first | exact rfl | assumption); (case kpq13 => first | omega | k_extra "size"); (case kdq13 => ktr_room); (case kuq13 => ktr_units)); intro hf9 t9 h9 tk9 F9 N9; (try dsimp only); (try k_sweep))
  k_with "call ref @" => (k_here; (with_reducible show wpAny _ _ (call (Value.ref 55) _) _ _ _); k_dflt (refine' Ct.useF (cf_last_part _ _) ?k1q14 ?k2q14 ?k3q14 ?k4q14 ?k5q14 ?kKq14 ?kpq14 ?kdq14 ?kuq14 ?_; (case k1q14 => k_asm); (case k2q14 => k_asm); (case k3q14 => k_asm); (case k4q14 => k_asm); (case k5q14 => k_asm); (case kKq14 => first | exact rfl | assumption); (case kpq14 => first | omega | k_extra "size"); (case kdq14 => ktr_room); (case kuq14 => ktr_units)); intro hf9 t9 h9 tk9 F9 N9; (try dsimp only); (try k_sweep))
  dsimp only [CbRet]
  intro w mean mg mb news
  intros
  rename_i hp _ _ hret
  refine wpAny_call ?_
  k_dflt cell_enter
  k_steps
  · exact ret_of hret (ret_str (bn_eq x)) (by with_reducible assumption) (by assumption)
theorem cf_backup_name (x : Str) (t : Tok) : Ct 167 1 (x.length ≤ 10000) [.str x t] (fun t => .str (S (Lx x ++ [126])) t) ∧ ((x.length ≤ 10000) → (S (Lx x ++ [126])).length ≤ x.length + 1) := ⟨c_backup_name x t, fun _ => by rw [len_S, ← len_L]; simp⟩
theorem c_auto_save_name (x : Str) (t : Tok) : Ct 195 2 (x.length ≤ 10000) [.str x t] (fun t => .str (S (dirPart (Lx x) ++ 35 :: tw 47 (Lx x) ++ [35])) t) := by
  unfold Ct
  k_fill
  w_top off
  k_with_none
  k_with "ite @" => first | with_reducible refine ite_tt ?_ | with_reducible refine ite_ff ?_
  k_with "call ref @" => (k_here; (with_reducible show wpAny _ _ (call (Value.ref 69) _) _ _ _); k_dflt (refine' Ct.useF (cf_as_file _ _) ?k1q13 ?k2q13 ?k3q13 ?k4q13 ?k5q13 ?kKq13 ?kpq13 ?kdq13 ?kuq13 ?_; (case k1q13 => k_asm); (case k2q13 => k_asm); (case k3q13 => k_asm); (case k4q13 => k_asm); (case k5q13 => k_asm); (case kKq13 => first | exact rfl | assumption); (case kpq13 => first | omega | k_extra "size"); (case kdq13 => ktr_room); (case kuq13 => ktr_units)); intro hf9 t9 h9 tk9 F9 N9; (try dsimp only); (try k_sweep))
  k_with "call ref @" => (k_here; (with_reducible show wpAny _ _ (call (Value.ref 55) _) _ _ _); k_dflt (refine' Ct.useF (cf_last_part _ _) ?k1q14 ?k2q14 ?k3q14 ?k4q14 ?k5q14 ?kKq14 ?kpq14 ?kdq14 ?kuq14 ?_; (case k1q14 => k_asm); (case k2q14 => k_asm); (case k3q14 => k_asm); (case k4q14 => k_asm); (case k5q14 => k_asm); (case kKq14 => first | exact rfl | assumption); (case kpq14 => first | omega | k_extra "size"); (case kdq14 => ktr_room); (case kuq14 => ktr_units)); intro hf9 t9 h9 tk9 F9 N9; (try dsimp only); (try k_sweep))
  dsimp only [CbRet]
  intro w mean mg mb news
  intros
  rename_i hp _ _ hret
  refine wpAny_call ?_
  k_dflt cell_enter
  k_steps
  · exact ret_of hret (ret_str (as_eq x)) (by with_reducible assumption) (by assumption)
theorem cf_auto_save_name (x : Str) (t : Tok) : Ct 195 2 (x.length ≤ 10000) [.str x t] (fun t => .str (S (dirPart (Lx x) ++ 35 :: tw 47 (Lx x) ++ [35])) t) ∧ ((x.length ≤ 10000) → (S (dirPart (Lx x) ++ 35 :: tw 47 (Lx x) ++ [35])).length ≤ 2 * x.length + 2) := ⟨c_auto_save_name x t, fun _ => by rw [len_S, ← len_L]; have h1 := tw_len 47 (Lx x); have h2 := dirPart_len (Lx x); simp only [List.length_append, List.length_cons, List.length_nil]; omega⟩
theorem c_is_auto_save_name (x : Str) (t : Tok) : Ct 202 2 (x.length ≤ 10000) [.str x t] (fun _ => .bool (isAuto (tw 47 (Lx x)))) := by
  unfold Ct
  k_fill
  w_top off
  k_with_none
  k_with "ite @" => first | with_reducible refine ite_tt ?_ | with_reducible refine ite_ff ?_
  k_with "call ref @" => (k_here; (with_reducible show wpAny _ _ (call (Value.ref 69) _) _ _ _); k_dflt (refine' Ct.useF (cf_as_file _ _) ?k1q13 ?k2q13 ?k3q13 ?k4q13 ?k5q13 ?kKq13 ?kpq13 ?kdq13 ?kuq13 ?_; (case k1q13 => k_asm); (case k2q13 => k_asm); (case k3q13 => k_asm); (case k4q13 => k_asm); (case k5q13 => k_asm); (case kKq13 => first | exact rfl | assumption); (case kpq13 => first | omega | k_extra "size"); (case kdq13 => ktr_room); (case kuq13 => ktr_units)); intro hf9 t9 h9 tk9 F9 N9; (try dsimp only); (try k_sweep))
  k_with "call ref @" => (k_here; (with_reducible show wpAny _ _ (call (Value.ref 55) _) _ _ _); k_dflt (refine' Ct.useF (cf_last_part _ _) ?k1q14 ?k2q14 ?k3q14 ?k4q14 ?k5q14 ?kKq14 ?kpq14 ?kdq14 ?kuq14 ?_; (case k1q14 => k_asm); (case k2q14 => k_asm); (case k3q14 => k_asm); (case k4q14 => k_asm); (case k5q14 => k_asm); (case kKq14 => first | exact rfl | assumption); (case kpq14 => first | omega | k_extra "size"); (case kdq14 => ktr_room); (case kuq14 => ktr_units)); intro hf9 t9 h9 tk9 F9 N9; (try dsimp only); (try k_sweep))
  dsimp only [CbRet]
  intro w mean mg mb news
  intros
  rename_i hp _ _ hret
  refine wpAny_call ?_
  k_dflt cell_enter
  k_steps
  · exact ret_of hret (ret_bool (ia_a (by with_reducible assumption) (by with_reducible assumption))) (by with_reducible assumption) (by assumption)
  · exact ret_of hret (ret_bool (ia_b (by with_reducible assumption) (by with_reducible assumption))) (by with_reducible assumption) (by assumption)
  · exact ret_of hret (ret_bool (ia_c (by with_reducible assumption))) (by with_reducible assumption) (by assumption)
theorem cf_is_auto_save_name (x : Str) (t : Tok) : Ct 202 2 (x.length ≤ 10000) [.str x t] (fun _ => .bool (isAuto (tw 47 (Lx x)))) ∧ ((x.length ≤ 10000) → True) := ⟨c_is_auto_save_name x t, fun _ => True.intro⟩
theorem c_lock_name (x : Str) (t : Tok) : Ct 209 2 (x.length ≤ 10000) [.str x t] (fun t => .str (S (dirPart (Lx x) ++ [46, 35] ++ tw 47 (Lx x))) t) := by
  unfold Ct
  k_fill
  w_top off
  k_with_none
  k_with "ite @" => first | with_reducible refine ite_tt ?_ | with_reducible refine ite_ff ?_
  k_with "call ref @" => (k_here; (with_reducible show wpAny _ _ (call (Value.ref 69) _) _ _ _); k_dflt (refine' Ct.useF (cf_as_file _ _) ?k1q13 ?k2q13 ?k3q13 ?k4q13 ?k5q13 ?kKq13 ?kpq13 ?kdq13 ?kuq13 ?_; (case k1q13 => k_asm); (case k2q13 => k_asm); (case k3q13 => k_asm); (case k4q13 => k_asm); (case k5q13 => k_asm); (case kKq13 => first | exact rfl | assumption); (case kpq13 => first | omega | k_extra "size"); (case kdq13 => ktr_room); (case kuq13 => ktr_units)); intro hf9 t9 h9 tk9 F9 N9; (try dsimp only); (try k_sweep))
  k_with "call ref @" => (k_here; (with_reducible show wpAny _ _ (call (Value.ref 55) _) _ _ _); k_dflt (refine' Ct.useF (cf_last_part _ _) ?k1q14 ?k2q14 ?k3q14 ?k4q14 ?k5q14 ?kKq14 ?kpq14 ?kdq14 ?kuq14 ?_; (case k1q14 => k_asm); (case k2q14 => k_asm); (case k3q14 => k_asm); (case k4q14 => k_asm); (case k5q14 => k_asm); (case kKq14 => first | exact rfl | assumption); (case kpq14 => first | omega | k_extra "size"); (case kdq14 => ktr_room); (case kuq14 => ktr_units)); intro hf9 t9 h9 tk9 F9 N9; (try dsimp only); (try k_sweep))
  dsimp only [CbRet]
  intro w mean mg mb news
  intros
  rename_i hp _ _ hret
  refine wpAny_call ?_
  k_dflt cell_enter
  k_steps
  · exact ret_of hret (ret_str (lk_eq x)) (by with_reducible assumption) (by assumption)
theorem cf_lock_name (x : Str) (t : Tok) : Ct 209 2 (x.length ≤ 10000) [.str x t] (fun t => .str (S (dirPart (Lx x) ++ [46, 35] ++ tw 47 (Lx x))) t) ∧ ((x.length ≤ 10000) → (S (dirPart (Lx x) ++ [46, 35] ++ tw 47 (Lx x))).length ≤ 2 * x.length + 2) := ⟨c_lock_name x t, fun _ => by rw [len_S, ← len_L]; have h1 := tw_len 47 (Lx x); have h2 := dirPart_len (Lx x); simp only [List.length_append, List.length_cons, List.length_nil]; omega⟩
theorem c_abbreviated (x y : Str) (t u : Tok) : Ct 160 2 (x.length ≤ 10000 ∧ y.length ≤ 10000) [.str x t, .str y u] (fun t => .str (S (abbr (Lx x) (Lx y))) t) := by
  unfold Ct
  k_fill
  w_top off
  k_with_none
  k_with "ite @" => first | with_reducible refine ite_tt ?_ | with_reducible refine ite_ff ?_
  k_with "call ref @" => (k_here; (with_reducible show wpAny _ _ (call (Value.ref 69) _) _ _ _); k_dflt (refine' Ct.useF (cf_as_file _ _) ?k1q13 ?k2q13 ?k3q13 ?k4q13 ?k5q13 ?kKq13 ?kpq13 ?kdq13 ?kuq13 ?_; (case k1q13 => k_asm); (case k2q13 => k_asm); (case k3q13 => k_asm); (case k4q13 => k_asm); (case k5q13 => k_asm); (case kKq13 => first | exact rfl | assumption); (case kpq13 => first | omega | k_extra "size"); (case kdq13 => ktr_room); (case kuq13 => ktr_units)); intro hf9 t9 h9 tk9 F9 N9; (try dsimp only); (try k_sweep))
  k_with "call ref @" => (k_here; (with_reducible show wpAny _ _ (call (Value.ref 55) _) _ _ _); k_dflt (refine' Ct.useF (cf_last_part _ _) ?k1q14 ?k2q14 ?k3q14 ?k4q14 ?k5q14 ?kKq14 ?kpq14 ?kdq14 ?kuq14 ?_; (case k1q14 => k_asm); (case k2q14 => k_asm); (case k3q14 => k_asm); (case k4q14 => k_asm); (case k5q14 => k_asm); (case kKq14 => first | exact rfl | assumption); (case kpq14 => first | omega | k_extra "size"); (case kdq14 => ktr_room); (case kuq14 => ktr_units)); intro hf9 t9 h9 tk9 F9 N9; (try dsimp only); (try k_sweep))
  dsimp only [CbRet]
  intro w mean mg mb news
  intros
  rename_i hp _ _ hret
  have hp1 := hp.1
  have hp2 := hp.2
  refine wpAny_call ?_
  k_dflt cell_enter
  k_steps
  · exact ret_of hret (ret_str (ab_a (by with_reducible assumption))) (by with_reducible assumption) (by assumption)
  · exact ret_of hret (ret_str (ab_b (by with_reducible assumption) (by with_reducible assumption))) (by with_reducible assumption) (by assumption)
  · exact ret_of hret (ret_str (ab_c (by with_reducible assumption) (by with_reducible assumption) (by with_reducible assumption))) (by with_reducible assumption) (by assumption)
  · exact ret_of hret (ret_str (ab_d (by with_reducible assumption) (by with_reducible assumption) (by with_reducible assumption))) (by with_reducible assumption) (by assumption)
theorem cf_abbreviated (x y : Str) (t u : Tok) : Ct 160 2 (x.length ≤ 10000 ∧ y.length ≤ 10000) [.str x t, .str y u] (fun t => .str (S (abbr (Lx x) (Lx y))) t) ∧ ((x.length ≤ 10000 ∧ y.length ≤ 10000) → (S (abbr (Lx x) (Lx y))).length ≤ x.length + 1) := ⟨c_abbreviated x y t u, fun _ => by rw [len_S, ← len_L x]; exact abbr_len (Lx x) (Lx y)⟩
theorem c_numbered_name (x : Str) (k : Int) (t u : Tok) : Ct 174 1 (x.length ≤ 10000 ∧ 0 ≤ k ∧ k ≤ 1000) [.str x t, .int k u] (fun t => .str (S (numbered (Lx x) k)) t) := by
  unfold Ct
  k_fill
  w_top off
  k_with_none
  k_with "ite @" => first | with_reducible refine ite_tt ?_ | with_reducible refine ite_ff ?_
  k_with "call ref @" => (k_here; (with_reducible show wpAny _ _ (call (Value.ref 69) _) _ _ _); k_dflt (refine' Ct.useF (cf_as_file _ _) ?k1q13 ?k2q13 ?k3q13 ?k4q13 ?k5q13 ?kKq13 ?kpq13 ?kdq13 ?kuq13 ?_; (case k1q13 => k_asm); (case k2q13 => k_asm); (case k3q13 => k_asm); (case k4q13 => k_asm); (case k5q13 => k_asm); (case kKq13 => first | exact rfl | assumption); (case kpq13 => first | omega | k_extra "size"); (case kdq13 => ktr_room); (case kuq13 => ktr_units)); intro hf9 t9 h9 tk9 F9 N9; (try dsimp only); (try k_sweep))
  k_with "call ref @" => (k_here; (with_reducible show wpAny _ _ (call (Value.ref 55) _) _ _ _); k_dflt (refine' Ct.useF (cf_last_part _ _) ?k1q14 ?k2q14 ?k3q14 ?k4q14 ?k5q14 ?kKq14 ?kpq14 ?kdq14 ?kuq14 ?_; (case k1q14 => k_asm); (case k2q14 => k_asm); (case k3q14 => k_asm); (case k4q14 => k_asm); (case k5q14 => k_asm); (case kKq14 => first | exact rfl | assumption); (case kpq14 => first | omega | k_extra "size"); (case kdq14 => ktr_room); (case kuq14 => ktr_units)); intro hf9 t9 h9 tk9 F9 N9; (try dsimp only); (try k_sweep))
  dsimp only [CbRet]
  intro w mean mg mb news
  intros
  rename_i hp _ _ hret
  have hp1 := hp.1
  have hp2 := hp.2
  refine wpAny_call ?_
  k_dflt cell_enter
  k_steps
  · exact ret_of hret (ret_str (nn_eq x k)) (by with_reducible assumption) (by assumption)
theorem cf_numbered_name (x : Str) (k : Int) (t u : Tok) : Ct 174 1 (x.length ≤ 10000 ∧ 0 ≤ k ∧ k ≤ 1000) [.str x t, .int k u] (fun t => .str (S (numbered (Lx x) k)) t) ∧ ((x.length ≤ 10000 ∧ 0 ≤ k ∧ k ≤ 1000) → (S (numbered (Lx x) k)).length ≤ x.length + 10) := ⟨c_numbered_name x k t u, fun h => by rw [len_S, ← len_L x]; exact numbered_len (Lx x) h.2.1 h.2.2⟩
end Mine
end
section
open PySem PySem.W PyProof.Rows
set_option maxRecDepth 100000
set_option maxHeartbeats 8000000
namespace Mine
theorem lit1 : (Str.ofString "/").length = 1 := by decide +kernel
theorem exp_join {x : Str} {n : Nat} (h : x.length ≤ n) (hn : n < 100000) : tot (stepsL (cut 47 (Lx x))) ≤ 1000000 := by
  have h1 := stepsL_tot (cut 47 (Lx x))
  rw [cut_tot, len_L] at h1
  omega
theorem head_ne {l : List Nat} : (Txt.slice (S l) none (some 1) != Str.ofString "/") = decide (l.take 1 ≠ [47]) := by
  rw [slash_lit, slice_upto _ (by decide), bne_S, L_S, L_S]
  rfl
theorem w_1 {x y z : Str} (h1 : (Txt.slice (S (withHome (Lx x) (Lx z))) none (some 1) != Str.ofString "/") = true) (h2 : (Txt.slice (S (withHome (Lx y) (Lx z))) none (some 1) != Str.ofString "/") = true) :
    Lx (S (asDir (Lx (Str.ofString "/" ++ S (withHome (Lx y) (Lx z))))) ++ S (withHome (Lx x) (Lx z))) = wholeOf (Lx x) (Lx y) (Lx z) := by
  rw [head_ne, decide_eq_true_eq] at h1 h2
  rw [wholeOf, if_pos h1, baseOf, if_pos h2, app_S, L_S, L_S, L_S, app_S, L_S, L_S, slash_lit, L_S]
  rfl
theorem w_2 {x y z : Str} (h1 : (Txt.slice (S (withHome (Lx x) (Lx z))) none (some 1) != Str.ofString "/") = true) (h2 : (Txt.slice (S (withHome (Lx y) (Lx z))) none (some 1) != Str.ofString "/") = false) :
    Lx (S (asDir (Lx (S (withHome (Lx y) (Lx z))))) ++ S (withHome (Lx x) (Lx z))) = wholeOf (Lx x) (Lx y) (Lx z) := by
  rw [head_ne] at h1 h2
  rw [decide_eq_true_eq] at h1
  rw [decide_eq_false_iff_not] at h2
  rw [wholeOf, if_pos h1, baseOf, if_neg h2, app_S, L_S, L_S, L_S, L_S]
theorem w_3 {x y z : Str} (h1 : (Txt.slice (S (withHome (Lx x) (Lx z))) none (some 1) != Str.ofString "/") = false) :
    Lx (S (withHome (Lx x) (Lx z))) = wholeOf (Lx x) (Lx y) (Lx z) := by
  rw [head_ne, decide_eq_false_iff_not] at h1
  rw [wholeOf, if_neg h1, L_S]
theorem found_eq (l : List Nat) : Str.ofString "/" ++ S (glue 47 (stepsL (cut 47 l))) = S (joined (stepsL (cut 47 l))) := by
  rw [app_S, slash_lit, L_S, L_S]
  rfl
theorem exp_a {x y z W : Str} (hW : Lx W = wholeOf (Lx x) (Lx y) (Lx z)) (h1 : (Str.ofString "/" ++ S (glue 47 (stepsL (cut 47 (Lx W)))) != Str.ofString "/") = true) (h2 : (Txt.slice x (some (-1)) none == Str.ofString "/") = true) :
    Str.ofString "/" ++ S (glue 47 (stepsL (cut 47 (Lx W)))) ++ Str.ofString "/" = S (expL (Lx x) (Lx y) (Lx z)) := by
  rw [found_eq, hW] at *
  rw [slash_lit, bne_S, L_S, decide_eq_true_eq] at h1
  rw [slash_lit, end_eq, decide_eq_true_eq] at h2
  rw [expL, if_pos ⟨h1, h2⟩, app_S, slash_lit, L_S, L_S]
theorem exp_b {x y z W : Str} (hW : Lx W = wholeOf (Lx x) (Lx y) (Lx z)) (h2 : (Txt.slice x (some (-1)) none == Str.ofString "/") = false) :
    Str.ofString "/" ++ S (glue 47 (stepsL (cut 47 (Lx W)))) = S (expL (Lx x) (Lx y) (Lx z)) := by
  rw [found_eq, hW] at *
  rw [slash_lit, end_eq, decide_eq_false_iff_not] at h2
  rw [expL, if_neg fun h => h2 h.2]
theorem exp_c {x y z W : Str} (hW : Lx W = wholeOf (Lx x) (Lx y) (Lx z)) (h1 : (Str.ofString "/" ++ S (glue 47 (stepsL (cut 47 (Lx W)))) != Str.ofString "/") = false) :
    Str.ofString "/" ++ S (glue 47 (stepsL (cut 47 (Lx W)))) = S (expL (Lx x) (Lx y) (Lx z)) := by
  rw [found_eq, hW] at *
  rw [slash_lit, bne_S, L_S, decide_eq_false_iff_not] at h1
  rw [expL, if_neg fun h => h1 h.1]
theorem c_expanded (x y z : Str) (t u v : Tok) : Ct 125 3 (x.length ≤ 1000 ∧ y.length ≤ 1000 ∧ z.length ≤ 1000) [.str x t, .str y u, .str z v] (fun t => .str (S (expL (Lx x) (Lx y) (Lx z))) t) := by
  unfold Ct
  k_fill
  w_top off
  k_with_none
  k_with "ite @" => first | with_reducible refine ite_tt ?_ | with_reducible refine ite_ff ?_
  k_with "call ref @" => (k_here; (with_reducible show wpAny _ _ (call (Value.ref 62) _) _ _ _); k_dflt (refine' Ct.useF (cf_as_directory _ _) ?k1q16 ?k2q16 ?k3q16 ?k4q16 ?k5q16 ?kKq16 ?kpq16 ?kdq16 ?kuq16 ?_; (case k1q16 => k_asm); (case k2q16 => k_asm); (case k3q16 => k_asm); (case k4q16 => k_asm); (case k5q16 => k_asm); (case kKq16 => first | exact rfl | assumption); (case kpq16 => first | omega | k_extra "size"); (case kdq16 => ktr_room); (case kuq16 => ktr_units)); intro hf9 t9 h9 tk9 F9 N9; (try dsimp only); (try k_sweep))
  k_with "call ref @" => (k_here; (with_reducible show wpAny _ _ (call (Value.ref 111) _) _ _ _); k_dflt (refine' Ct.useF (cf_with_home _ _ _ _) ?k1q17 ?k2q17 ?k3q17 ?k4q17 ?k5q17 ?kKq17 ?kpq17 ?kdq17 ?kuq17 ?_; (case k1q17 => k_asm); (case k2q17 => k_asm); (case k3q17 => k_asm); (case k4q17 => k_asm); (case k5q17 => k_asm); (case kKq17 => first | exact rfl | assumption); (case kpq17 => first | omega | k_extra "size"); (case kdq17 => ktr_room); (case kuq17 => ktr_units)); intro hf9 t9 h9 tk9 F9 N9; (try dsimp only); (try k_sweep))
  k_with "call ref @" => (k_here; (with_reducible show wpAny _ _ (call (Value.ref 118) _) _ _ _); k_dflt (refine' CtL.use (c_steps_of _ _) ?k1q18 ?k2q18 ?k3q18 ?k4q18 ?k5q18 ?kKq18 ?kpq18 ?kdq18 ?kuq18 ?_; (case k1q18 => k_asm); (case k2q18 => k_asm); (case k3q18 => k_asm); (case k4q18 => k_asm); (case k5q18 => k_asm); (case kKq18 => first | exact rfl | assumption); (case kpq18 => first | omega | k_extra "size"); (case kdq18 => ktr_room); (case kuq18 => ktr_units)); intro D9 its9 n9 h9 tk9 F9 N9 l9 hSA9; (try dsimp only); (try k_sweep))
  k_with "call builtin:str.join @" => (k_here; (with_reducible show wpAny _ _ (call (Value.builtin "str.join") [Value.str _ _, Value.ref _]) _ _ _); k_dflt (refine' join_ref ?eq19 ?lq19 ?iq19 ?zq19 ?_; (case eq19 => decide +kernel); (case lq19 => kmk_list); (case iq19 => assumption); (case zq19 => k_extra "join")); intro hj9 t9 k9)
  dsimp only [CbRet]
  intro w mean mg mb news
  intros
  rename_i hp _ _ hret
  obtain ⟨hp1, hp2, hp3⟩ := hp
  have hq1 := lit1
  refine wpAny_call ?_
  k_dflt cell_enter
  k_with "size" => first | exact ⟨by omega, by omega⟩
  k_with "join" => exact exp_join (n := 9999) (by omega) (by decide)
  k_steps
  · (rename News _ _ _ (_ :: _) => nZ); exact ret_of hret (ret_str (exp_a (w_1 (by with_reducible assumption) (by with_reducible assumption)) (by with_reducible assumption) (by with_reducible assumption))) (by with_reducible assumption) (fun p hp => nZ p (.tail _ hp))
  · (rename News _ _ _ (_ :: _) => nZ); exact ret_of hret (ret_str (exp_b (w_1 (by with_reducible assumption) (by with_reducible assumption)) (by with_reducible assumption))) (by with_reducible assumption) (fun p hp => nZ p (.tail _ hp))
  · (rename News _ _ _ (_ :: _) => nZ); exact ret_of hret (ret_str (exp_c (w_1 (by with_reducible assumption) (by with_reducible assumption)) (by with_reducible assumption))) (by with_reducible assumption) (fun p hp => nZ p (.tail _ hp))
  · (rename News _ _ _ (_ :: _) => nZ); exact ret_of hret (ret_str (exp_a (w_2 (by with_reducible assumption) (by with_reducible assumption)) (by with_reducible assumption) (by with_reducible assumption))) (by with_reducible assumption) (fun p hp => nZ p (.tail _ hp))
  · (rename News _ _ _ (_ :: _) => nZ); exact ret_of hret (ret_str (exp_b (w_2 (by with_reducible assumption) (by with_reducible assumption)) (by with_reducible assumption))) (by with_reducible assumption) (fun p hp => nZ p (.tail _ hp))
  · (rename News _ _ _ (_ :: _) => nZ); exact ret_of hret (ret_str (exp_c (w_2 (by with_reducible assumption) (by with_reducible assumption)) (by with_reducible assumption))) (by with_reducible assumption) (fun p hp => nZ p (.tail _ hp))
  · (rename News _ _ _ (_ :: _) => nZ); exact ret_of hret (ret_str (exp_a (w_3 (by with_reducible assumption)) (by with_reducible assumption) (by with_reducible assumption))) (by with_reducible assumption) (fun p hp => nZ p (.tail _ hp))
  · (rename News _ _ _ (_ :: _) => nZ); exact ret_of hret (ret_str (exp_b (w_3 (by with_reducible assumption)) (by with_reducible assumption))) (by with_reducible assumption) (fun p hp => nZ p (.tail _ hp))
  · (rename News _ _ _ (_ :: _) => nZ); exact ret_of hret (ret_str (exp_c (w_3 (by with_reducible assumption)) (by with_reducible assumption))) (by with_reducible assumption) (fun p hp => nZ p (.tail _ hp))
theorem cf_expanded (x y z : Str) (t u v : Tok) : Ct 125 3 (x.length ≤ 1000 ∧ y.length ≤ 1000 ∧ z.length ≤ 1000) [.str x t, .str y u, .str z v] (fun t => .str (S (expL (Lx x) (Lx y) (Lx z))) t) ∧ ((x.length ≤ 1000 ∧ y.length ≤ 1000 ∧ z.length ≤ 1000) → (S (expL (Lx x) (Lx y) (Lx z))).length ≤ x.length + y.length + 2 * z.length + 8 ∧ 1 ≤ (S (expL (Lx x) (Lx y) (Lx z))).length) := ⟨c_expanded x y z t u v, fun _ => by rw [len_S, ← len_L x, ← len_L y, ← len_L z]; exact ⟨expL_len (Lx x) (Lx y) (Lx z), expL_pos (Lx x) (Lx y) (Lx z)⟩⟩
end Mine
end
section
open PySem PySem.W PyProof.Rows
set_option maxRecDepth 100000
set_option maxHeartbeats 8000000
namespace Mine
theorem st_len {x : Str} {n : Nat} (h : x.length ≤ n) (hn : n < 100000) : (stepsL (cut 47 (Lx x))).length < 1000000 := by
  have h1 := stepsL_len (cut 47 (Lx x))
  have h2 := cut_len 47 (Lx x)
  rw [len_L] at h2
  omega
theorem st_le {x : Str} {n : Nat} (h : x.length ≤ n) : (stepsL (cut 47 (Lx x))).length ≤ n + 1 := by
  have h1 := stepsL_len (cut 47 (Lx x))
  have h2 := cut_len 47 (Lx x)
  rw [len_L] at h2
  omega
theorem rel_add {x : Str} {j : Nat} {k : Int} {p : List Nat} (h : x.length ≤ 9999) (hk : k ≤ 200) : (List.replicate k.toNat p).length + ((stepsL (cut 47 (Lx x))).drop j).length ≤ 1000000 := by
  have := st_le h
  rw [List.length_replicate, List.length_drop]
  omega
theorem rel_join {x : Str} {j : Nat} {k : Int} (h : x.length ≤ 9999) (hk : k ≤ 200) : tot (List.replicate k.toNat (Lx (Str.ofString "..")) ++ (stepsL (cut 47 (Lx x))).drop j) ≤ 1000000 := by
  have h1 := stepsL_tot (cut 47 (Lx x))
  rw [cut_tot, len_L] at h1
  have h2 := tot_drop (stepsL (cut 47 (Lx x))) j
  have e : (Lx (Str.ofString "..")).length = 2 := by decide +kernel
  rw [tot_append, tot_rep, e]
  omega
noncomputable def relP (a b : List (List Nat)) (k : Int) : Prop := common a b = k.toNat + common (a.drop k.toNat) (b.drop k.toNat)
theorem rel_start (a b : List (List Nat)) : relP a b 0 := by simp [relP]
theorem rel_next {a b : List (List Nat)} {k : Int} (h0 : 0 ≤ k) (ha : k < a.length) (hb : k < b.length) (h : relP a b k) (e : (S (a.getD k.toNat []) == S (b.getD k.toNat [])) = true) : relP a b (k + 1) := by
  rw [beq_S, L_S, decide_eq_true_eq] at e
  have := common_step (by omega) (by omega) h e
  unfold relP
  have e1 : (k + 1).toNat = k.toNat + 1 := by omega
  rw [e1]
  exact this
theorem slash_L : Lx (Str.ofString "/") = [47] := by decide +kernel
theorem dd_L : Lx (Str.ofString "..") = [46, 46] := by decide +kernel
theorem rel_found {A B : List (List Nat)} {k : Int} (h0 : 0 ≤ k) (h1 : k ≤ (B.length : Int)) (hK : common A B = k.toNat) : List.replicate ((B.length : Int) - k).toNat (Lx (Str.ofString "..")) ++ A.drop k.toNat = relSteps A B := by
  unfold relSteps
  rw [hK, dd_L]
  congr 2
  omega
theorem rel_k1 {A B : List (List Nat)} {k : Int} (h0 : 0 ≤ k) (ha : k < A.length) (hb : k < B.length) (h : relP A B k) (e : (S (A.getD k.toNat []) == S (B.getD k.toNat [])) = false) : common A B = k.toNat := by
  rw [beq_S, L_S, decide_eq_false_iff_not] at e
  exact common_stop (by omega) (by omega) h e
theorem rel_k2 {A B : List (List Nat)} {k : Int} (h0 : 0 ≤ k) (hb : ¬ k < B.length) (h : relP A B k) : common A B = k.toNat := common_over (.inr (by omega)) h
theorem rel_k3 {A B : List (List Nat)} {k : Int} (h0 : 0 ≤ k) (ha : ¬ k < A.length) (h : relP A B k) : common A B = k.toNat := common_over (.inl (by omega)) h
section
variable {w b : Str} {R : List (List Nat)} (hF : R = relSteps (stepsL (cut 47 (Lx w))) (stepsL (cut 47 (Lx b))))
include hF
theorem rel_1 (h1 : (S (glue 47 R) == Str.ofString "") = true) (h2 : (Txt.slice w (some (-1)) none == Str.ofString "/") = true) : Str.ofString "./" = S (relW (Lx w) (Lx b)) := by
  subst hF
  rw [empty_lit, beq_S, L_S, decide_eq_true_eq] at h1
  rw [slash_lit, end_eq, decide_eq_true_eq] at h2
  rw [relW, if_pos h1, if_pos h2]
  decide +kernel
theorem rel_2 (h1 : (S (glue 47 R) == Str.ofString "") = true) (h2 : (Txt.slice w (some (-1)) none == Str.ofString "/") = false) : Str.ofString "." = S (relW (Lx w) (Lx b)) := by
  subst hF
  rw [empty_lit, beq_S, L_S, decide_eq_true_eq] at h1
  rw [slash_lit, end_eq, decide_eq_false_iff_not] at h2
  rw [relW, if_pos h1, if_neg h2]
  decide +kernel
theorem rel_3 (h1 : (S (glue 47 R) == Str.ofString "") = false) (h2 : (Txt.slice w (some (-1)) none == Str.ofString "/") = true) (h3 : (w != Str.ofString "/") = true) : S (glue 47 R) ++ Str.ofString "/" = S (relW (Lx w) (Lx b)) := by
  subst hF
  rw [empty_lit, beq_S, L_S, decide_eq_false_iff_not] at h1
  rw [slash_lit, end_eq, decide_eq_true_eq] at h2
  rw [slash_lit, bne_S, decide_eq_true_eq] at h3
  rw [relW, if_neg h1, if_pos ⟨h2, h3⟩, app_S, slash_lit, L_S, L_S]
theorem rel_4 (h1 : (S (glue 47 R) == Str.ofString "") = false) (h3 : (w != Str.ofString "/") = false) : S (glue 47 R) = S (relW (Lx w) (Lx b)) := by
  subst hF
  rw [empty_lit, beq_S, L_S, decide_eq_false_iff_not] at h1
  rw [slash_lit, bne_S, decide_eq_false_iff_not] at h3
  rw [relW, if_neg h1, if_neg (fun h => h3 h.2)]
theorem rel_5 (h1 : (S (glue 47 R) == Str.ofString "") = false) (h2 : (Txt.slice w (some (-1)) none == Str.ofString "/") = false) : S (glue 47 R) = S (relW (Lx w) (Lx b)) := by
  subst hF
  rw [empty_lit, beq_S, L_S, decide_eq_false_iff_not] at h1
  rw [slash_lit, end_eq, decide_eq_false_iff_not] at h2
  rw [relW, if_neg h1, if_neg (fun h => h2 h.1)]
end
theorem rel_all (x y z : Str) : relW (Lx (S (expL (Lx x) (Lx (Str.ofString "/")) (Lx z)))) (Lx (S (expL (Lx y) (Lx (Str.ofString "/")) (Lx z)))) = relL (Lx x) (Lx y) (Lx z) := by
  rw [slash_L, L_S, L_S]
  rfl
theorem c_relative (x y z : Str) (t u v : Tok) : Ct 132 4 (x.length ≤ 200 ∧ y.length ≤ 20 ∧ z.length ≤ 20) [.str x t, .str y u, .str z v] (fun t => .str (S (relL (Lx x) (Lx y) (Lx z))) t) := by
  unfold Ct
  k_fill
  w_top off
  k_with_none
  k_with "ite @" => first | with_reducible refine ite_tt ?_ | with_reducible refine ite_ff ?_
  k_with "call ref @" => (k_here; (with_reducible show wpAny _ _ (call (Value.ref 125) _) _ _ _); k_dflt (refine' Ct.useF (cf_expanded _ _ _ _ _ _) ?k1q21 ?k2q21 ?k3q21 ?k4q21 ?k5q21 ?kKq21 ?kpq21 ?kdq21 ?kuq21 ?_; (case k1q21 => k_asm); (case k2q21 => k_asm); (case k3q21 => k_asm); (case k4q21 => k_asm); (case k5q21 => k_asm); (case kKq21 => first | exact rfl | assumption); (case kpq21 => first | omega | k_extra "size"); (case kdq21 => ktr_room); (case kuq21 => ktr_units)); intro hf9 t9 h9 tk9 F9 N9; (try dsimp only); (try k_sweep))
  k_with "call ref @" => (k_here; (with_reducible show wpAny _ _ (call (Value.ref 118) _) _ _ _); k_dflt (refine' CtL.use (c_steps_of _ _) ?k1q22 ?k2q22 ?k3q22 ?k4q22 ?k5q22 ?kKq22 ?kpq22 ?kdq22 ?kuq22 ?_; (case k1q22 => k_asm); (case k2q22 => k_asm); (case k3q22 => k_asm); (case k4q22 => k_asm); (case k5q22 => k_asm); (case kKq22 => first | exact rfl | assumption); (case kpq22 => first | omega | k_extra "size"); (case kdq22 => ktr_room); (case kuq22 => ktr_units)); intro D9 its9 n9 h9 tk9 F9 N9 l9 hSA9; (try dsimp only); (try k_sweep))
  k_with "call builtin:str.join @" => (k_here; (with_reducible show wpAny _ _ (call (Value.builtin "str.join") [Value.str _ _, Value.ref _]) _ _ _); k_dflt (refine' join_ref ?eq23 ?lq23 ?iq23 ?zq23 ?_; (case eq23 => decide +kernel); (case lq23 => kmk_list); (case iq23 => assumption); (case zq23 => k_extra "join")); intro hj9 t9 k9)
  k_with "call builtin:len @" => (k_here; (with_reducible show wpAny _ _ (call (Value.builtin "len") [Value.ref _]) _ _ _); k_dflt (refine' len_ref ?Nq24 ?mq24 ?iq24 ?zq24 ?_; (case Nq24 => k_asm); (case mq24 => k_mem); (case iq24 => assumption); (case zq24 => k_extra "listlen")))
  k_with "subscriptTail Name Name ref int @" => (k_here; (with_reducible show wpAny _ _ (subscriptTail _ _ (Value.ref _) (Value.int _ _)) _ _ _); k_dflt (refine' item_ref ?Nq25 ?mq25 ?iq25 ?aq25 ?bq25 ?zq25 ?_ ?sq25 ?gq25; (case Nq25 => k_asm); (case mq25 => k_mem); (case iq25 => assumption); (case aq25 => omega); (case bq25 => omega); (case zq25 => k_extra "listlen"); (case sq25 => with_unfolding_all rfl); (case gq25 => kmk_pure)); intro t9)
  k_with "binaryOp Mult ref int @" => (k_here; k_dflt (refine' mul_ref ?Fq26 ?Nq26 ?mq26 ?aq26 ?bq26 ?_; (case Fq26 => k_asm); (case Nq26 => k_asm); (case mq26 => k_mem); (case aq26 => k_extra "mul"); (case bq26 => k_extra "mul")); intro D' ws' h' hSA' F' N' l1; (try k_sweep))
  k_with "binaryOp Add ref ref @" => (k_here; k_dflt (refine' add_ref ?Fq27 ?Nq27 ?aq27 ?bq27 ?iq27 ?jq27 ?zq27 ?_; (case Fq27 => k_asm); (case Nq27 => k_asm); (case aq27 => kmk_list); (case bq27 => kmk_list); (case iq27 => assumption); (case jq27 => assumption); (case zq27 => k_extra "add")); intro D' ws' h' hSA' F' N' l1; (try k_sweep))
  k_with "subscriptTail Name Slice ref ref @" => (k_here; (with_reducible show wpAny _ _ (subscriptTail _ (PySem.Expr.Slice _ none none _) _ (Value.ref _)) _ _ _); k_dflt (refine' slice_fromL ?iq28 ?pq28 ?Fq28 ?Nq28 ?lq28 ?zq28 ?_ ?sq28 ?tq28; (case Fq28 => k_asm); (case Nq28 => k_asm); (case lq28 => kmk_list); (case iq28 => assumption); (case pq28 => omega); (case sq28 => with_unfolding_all rfl); (case tq28 => kmk_pure); (case zq28 => k_extra "slice")); intro D' ws' h' hSA' F' N' l1; (try k_sweep))
  dsimp only [CbRet]
  intro w mean mg mb news
  intros
  rename_i hp _ _ hret
  obtain ⟨hp1, hp2, hp3⟩ := hp
  have hq1 := lit1
  refine wpAny_call ?_
  k_dflt cell_enter
  k_with "size" => first | exact ⟨by omega, by omega, by omega⟩
  k_with "listlen" => exact st_len (n := 9999) (by omega) (by decide)
  k_with "state" => first | exact ⟨by decide, by omega, by omega, rel_start _ _⟩ | exact ⟨by omega, by omega, by omega, rel_next (by omega) (by assumption) (by assumption) (by assumption) (by assumption)⟩
  k_with "mul" => ((have hb9 := st_le (x := S (expL (Lx y) (Lx (Str.ofString "/")) (Lx z))) (n := 100) (by omega)); omega)
  k_with "slice" => exact Nat.le_trans (st_le (n := 9999) (by omega)) (by decide)
  k_with "add" => exact rel_add (by omega) (by have hb9 := st_le (x := S (expL (Lx y) (Lx (Str.ofString "/")) (Lx z))) (n := 100) (by omega); omega)
  k_with "join" => exact rel_join (by omega) (by have hb9 := st_le (x := S (expL (Lx y) (Lx (Str.ofString "/")) (Lx z))) (n := 100) (by omega); omega)
  k_with "exec While BoolOp cons nil" => k_while (fun _ k => 0 ≤ k ∧ k ≤ ((stepsL (cut 47 (Lx (S (expL (Lx x) (Lx (Str.ofString "/")) (Lx z)))))).length : Int) ∧ k ≤ ((stepsL (cut 47 (Lx (S (expL (Lx y) (Lx (Str.ofString "/")) (Lx z)))))).length : Int) ∧ relP (stepsL (cut 47 (Lx (S (expL (Lx x) (Lx (Str.ofString "/")) (Lx z)))))) (stepsL (cut 47 (Lx (S (expL (Lx y) (Lx (Str.ofString "/")) (Lx z)))))) k) (fun _ k => (stepsL (cut 47 (Lx (S (expL (Lx x) (Lx (Str.ofString "/")) (Lx z)))))).length - k.toNat) "same"
  k_steps
  · (rename News _ _ _ _ => nZ); rw [← rel_all] at hret; exact ret_of hret (ret_str (rel_1 (rel_found (by with_reducible assumption) (by with_reducible assumption) (rel_k1 (by with_reducible assumption) (by with_reducible assumption) (by with_reducible assumption) (by with_reducible assumption) (by with_reducible assumption))) (by with_reducible assumption) (by with_reducible assumption))) (by with_reducible assumption) (fun p hp => nZ p (by repeat (first | exact hp | refine List.Mem.tail _ ?_)))
  · (rename News _ _ _ _ => nZ); rw [← rel_all] at hret; exact ret_of hret (ret_str (rel_2 (rel_found (by with_reducible assumption) (by with_reducible assumption) (rel_k1 (by with_reducible assumption) (by with_reducible assumption) (by with_reducible assumption) (by with_reducible assumption) (by with_reducible assumption))) (by with_reducible assumption) (by with_reducible assumption))) (by with_reducible assumption) (fun p hp => nZ p (by repeat (first | exact hp | refine List.Mem.tail _ ?_)))
  · (rename News _ _ _ _ => nZ); rw [← rel_all] at hret; exact ret_of hret (ret_str (rel_3 (rel_found (by with_reducible assumption) (by with_reducible assumption) (rel_k1 (by with_reducible assumption) (by with_reducible assumption) (by with_reducible assumption) (by with_reducible assumption) (by with_reducible assumption))) (by with_reducible assumption) (by with_reducible assumption) (by with_reducible assumption))) (by with_reducible assumption) (fun p hp => nZ p (by repeat (first | exact hp | refine List.Mem.tail _ ?_)))
  · (rename News _ _ _ _ => nZ); rw [← rel_all] at hret; exact ret_of hret (ret_str (rel_4 (rel_found (by with_reducible assumption) (by with_reducible assumption) (rel_k1 (by with_reducible assumption) (by with_reducible assumption) (by with_reducible assumption) (by with_reducible assumption) (by with_reducible assumption))) (by with_reducible assumption) (by with_reducible assumption))) (by with_reducible assumption) (fun p hp => nZ p (by repeat (first | exact hp | refine List.Mem.tail _ ?_)))
  · (rename News _ _ _ _ => nZ); rw [← rel_all] at hret; exact ret_of hret (ret_str (rel_5 (rel_found (by with_reducible assumption) (by with_reducible assumption) (rel_k1 (by with_reducible assumption) (by with_reducible assumption) (by with_reducible assumption) (by with_reducible assumption) (by with_reducible assumption))) (by with_reducible assumption) (by with_reducible assumption))) (by with_reducible assumption) (fun p hp => nZ p (by repeat (first | exact hp | refine List.Mem.tail _ ?_)))
  · (rename News _ _ _ _ => nZ); rw [← rel_all] at hret; exact ret_of hret (ret_str (rel_1 (rel_found (by with_reducible assumption) (by with_reducible assumption) (rel_k2 (by with_reducible assumption) (by with_reducible assumption) (by with_reducible assumption))) (by with_reducible assumption) (by with_reducible assumption))) (by with_reducible assumption) (fun p hp => nZ p (by repeat (first | exact hp | refine List.Mem.tail _ ?_)))
  · (rename News _ _ _ _ => nZ); rw [← rel_all] at hret; exact ret_of hret (ret_str (rel_2 (rel_found (by with_reducible assumption) (by with_reducible assumption) (rel_k2 (by with_reducible assumption) (by with_reducible assumption) (by with_reducible assumption))) (by with_reducible assumption) (by with_reducible assumption))) (by with_reducible assumption) (fun p hp => nZ p (by repeat (first | exact hp | refine List.Mem.tail _ ?_)))
  · (rename News _ _ _ _ => nZ); rw [← rel_all] at hret; exact ret_of hret (ret_str (rel_3 (rel_found (by with_reducible assumption) (by with_reducible assumption) (rel_k2 (by with_reducible assumption) (by with_reducible assumption) (by with_reducible assumption))) (by with_reducible assumption) (by with_reducible assumption) (by with_reducible assumption))) (by with_reducible assumption) (fun p hp => nZ p (by repeat (first | exact hp | refine List.Mem.tail _ ?_)))
  · (rename News _ _ _ _ => nZ); rw [← rel_all] at hret; exact ret_of hret (ret_str (rel_4 (rel_found (by with_reducible assumption) (by with_reducible assumption) (rel_k2 (by with_reducible assumption) (by with_reducible assumption) (by with_reducible assumption))) (by with_reducible assumption) (by with_reducible assumption))) (by with_reducible assumption) (fun p hp => nZ p (by repeat (first | exact hp | refine List.Mem.tail _ ?_)))
  · (rename News _ _ _ _ => nZ); rw [← rel_all] at hret; exact ret_of hret (ret_str (rel_5 (rel_found (by with_reducible assumption) (by with_reducible assumption) (rel_k2 (by with_reducible assumption) (by with_reducible assumption) (by with_reducible assumption))) (by with_reducible assumption) (by with_reducible assumption))) (by with_reducible assumption) (fun p hp => nZ p (by repeat (first | exact hp | refine List.Mem.tail _ ?_)))
  · (rename News _ _ _ _ => nZ); rw [← rel_all] at hret; exact ret_of hret (ret_str (rel_1 (rel_found (by with_reducible assumption) (by with_reducible assumption) (rel_k3 (by with_reducible assumption) (by with_reducible assumption) (by with_reducible assumption))) (by with_reducible assumption) (by with_reducible assumption))) (by with_reducible assumption) (fun p hp => nZ p (by repeat (first | exact hp | refine List.Mem.tail _ ?_)))
  · (rename News _ _ _ _ => nZ); rw [← rel_all] at hret; exact ret_of hret (ret_str (rel_2 (rel_found (by with_reducible assumption) (by with_reducible assumption) (rel_k3 (by with_reducible assumption) (by with_reducible assumption) (by with_reducible assumption))) (by with_reducible assumption) (by with_reducible assumption))) (by with_reducible assumption) (fun p hp => nZ p (by repeat (first | exact hp | refine List.Mem.tail _ ?_)))
  · (rename News _ _ _ _ => nZ); rw [← rel_all] at hret; exact ret_of hret (ret_str (rel_3 (rel_found (by with_reducible assumption) (by with_reducible assumption) (rel_k3 (by with_reducible assumption) (by with_reducible assumption) (by with_reducible assumption))) (by with_reducible assumption) (by with_reducible assumption) (by with_reducible assumption))) (by with_reducible assumption) (fun p hp => nZ p (by repeat (first | exact hp | refine List.Mem.tail _ ?_)))
  · (rename News _ _ _ _ => nZ); rw [← rel_all] at hret; exact ret_of hret (ret_str (rel_4 (rel_found (by with_reducible assumption) (by with_reducible assumption) (rel_k3 (by with_reducible assumption) (by with_reducible assumption) (by with_reducible assumption))) (by with_reducible assumption) (by with_reducible assumption))) (by with_reducible assumption) (fun p hp => nZ p (by repeat (first | exact hp | refine List.Mem.tail _ ?_)))
  · (rename News _ _ _ _ => nZ); rw [← rel_all] at hret; exact ret_of hret (ret_str (rel_5 (rel_found (by with_reducible assumption) (by with_reducible assumption) (rel_k3 (by with_reducible assumption) (by with_reducible assumption) (by with_reducible assumption))) (by with_reducible assumption) (by with_reducible assumption))) (by with_reducible assumption) (fun p hp => nZ p (by repeat (first | exact hp | refine List.Mem.tail _ ?_)))
theorem cf_relative (x y z : Str) (t u v : Tok) : Ct 132 4 (x.length ≤ 200 ∧ y.length ≤ 20 ∧ z.length ≤ 20) [.str x t, .str y u, .str z v] (fun t => .str (S (relL (Lx x) (Lx y) (Lx z))) t) ∧ ((x.length ≤ 200 ∧ y.length ≤ 20 ∧ z.length ≤ 20) → (S (relL (Lx x) (Lx y) (Lx z))).length ≤ x.length + 3 * y.length + 8 * z.length + 50) := ⟨c_relative x y z t u v, fun _ => by rw [len_S, ← len_L x, ← len_L y, ← len_L z]; exact relL_len (Lx x) (Lx y) (Lx z)⟩
end Mine
end
section
open PySem PySem.W PyProof.Rows
set_option maxRecDepth 100000
set_option maxHeartbeats 8000000
namespace Mine
theorem ve_step {x : Str} {e k : Int} (h0 : 0 ≤ e) (h1 : e < (x.length : Int)) (h2 : x.length ≤ 10000) (h3 : varEnd (Lx x) e.toNat = varEnd (Lx x) k.toNat) (h4 : (Builtin.Str.occurrences (Str.ofString "ABCDEFGHIJKLMNOPQRSTUVWXYZabcdefghijklmnopqrstuvwxyz_0123456789") (Txt.item x e) 0 (Str.ofString "ABCDEFGHIJKLMNOPQRSTUVWXYZabcdefghijklmnopqrstuvwxyz_0123456789").length 1).isEmpty = false) :
    0 ≤ e + 1 ∧ e + 1 ≤ 10000 ∧ varEnd (Lx x) (e + 1).toNat = varEnd (Lx x) k.toNat := by
  refine ⟨by omega, by omega, ?_⟩
  have hl := len_L x
  have h5 := occ_t h4
  rw [sign_eq x h0 h1] at h5
  have e1 : (e + 1).toNat = e.toNat + 1 := by omega
  rw [e1, ← h3, varEnd_step (by omega) h5]
theorem ve_stop {x : Str} {e k : Int} (h0 : 0 ≤ e) (h1 : e < (x.length : Int)) (h3 : varEnd (Lx x) e.toNat = varEnd (Lx x) k.toNat) (h4 : (Builtin.Str.occurrences (Str.ofString "ABCDEFGHIJKLMNOPQRSTUVWXYZabcdefghijklmnopqrstuvwxyz_0123456789") (Txt.item x e) 0 (Str.ofString "ABCDEFGHIJKLMNOPQRSTUVWXYZabcdefghijklmnopqrstuvwxyz_0123456789").length 1).isEmpty = true) :
    e = (varEnd (Lx x) k.toNat : Int) := by
  have hl := len_L x
  have h5 := occ_f h4
  rw [sign_eq x h0 h1] at h5
  rw [← h3, varEnd_stop (by omega) h5]
  omega
theorem ve_over {x : Str} {e k : Int} (h0 : 0 ≤ e) (h1 : ¬ e < (x.length : Int)) (h3 : varEnd (Lx x) e.toNat = varEnd (Lx x) k.toNat) : e = (varEnd (Lx x) k.toNat : Int) := by
  have hl := len_L x
  rw [← h3, varEnd_over (by omega)]
  omega
theorem rst_start (x : Str) : 0 ≤ (0 : Int) ∧ (0 : Int) = (rs (Lx x) (([] : List Int).length + 1) : Int) := ⟨by decide, by rw [List.length_nil, rs_one]; rfl⟩
theorem rst_pos (x : Str) {kN f : Int} {p : List Int} (h : kN = 1 + (p.length : Int)) (hlt : p.length < ((x.length : Int) - 1).toNat) : 0 ≤ kN - 1 ∧ kN - 1 < x.length ∧ 0 ≤ kN ∧ kN < x.length ∧ (kN - 1).toNat = kN.toNat - 1 ∧ kN.toNat = p.length + 1 ∧ (p ++ [kN]).length + 1 = kN.toNat + 1 := by
  rw [List.length_append, List.length_singleton]
  obtain ⟨a1, a2, a3, a4, a5, a6⟩ := near_pos (n := x.length) (h.trans (Int.add_comm _ _)) (by omega)
  exact ⟨a1, a2, a3, a4, a5, a6, by rw [a6]⟩
theorem rst_yes {x : Str} {kN f : Int} {p : List Int} (h : kN = 1 + (p.length : Int)) (hlt : p.length < ((x.length : Int) - 1).toNat) (h1 : (Txt.item x (kN - 1) == Str.ofString "/") = true) (h2 : (Builtin.Str.occurrences (Str.ofString "/~") (Txt.item x kN) 0 (Str.ofString "/~").length 1).isEmpty = false) :
    0 ≤ kN ∧ kN = (rs (Lx x) ((p ++ [kN]).length + 1) : Int) := by
  obtain ⟨a1, a2, a3, a4, a5, a6, a7⟩ := rst_pos x (f := 0) h hlt
  have h3 := occ_t h2
  rw [start_eq x a3 a4, decide_eq_true_eq] at h3
  rw [slash_lit, item_is x a1 a2, decide_eq_true_eq, a5] at h1
  refine ⟨a3, ?_⟩
  rw [a7, rs_yes (by omega) h1 h3]
  omega
theorem rst_no1 {x : Str} {kN f : Int} {p : List Int} (h : kN = 1 + (p.length : Int)) (hlt : p.length < ((x.length : Int) - 1).toNat) (hf : 0 ≤ f) (hr : f = (rs (Lx x) (p.length + 1) : Int)) (h1 : (Txt.item x (kN - 1) == Str.ofString "/") = false) :
    0 ≤ f ∧ f = (rs (Lx x) ((p ++ [kN]).length + 1) : Int) := by
  obtain ⟨a1, a2, a3, a4, a5, a6, a7⟩ := rst_pos x (f := 0) h hlt
  rw [slash_lit, item_is x a1 a2, decide_eq_false_iff_not, a5] at h1
  refine ⟨hf, ?_⟩
  rw [a7, rs_no1 h1, hr, a6]
theorem rst_no2 {x : Str} {kN f : Int} {p : List Int} (h : kN = 1 + (p.length : Int)) (hlt : p.length < ((x.length : Int) - 1).toNat) (hf : 0 ≤ f) (hr : f = (rs (Lx x) (p.length + 1) : Int)) (h2 : (Builtin.Str.occurrences (Str.ofString "/~") (Txt.item x kN) 0 (Str.ofString "/~").length 1).isEmpty = true) :
    0 ≤ f ∧ f = (rs (Lx x) ((p ++ [kN]).length + 1) : Int) := by
  obtain ⟨a1, a2, a3, a4, a5, a6, a7⟩ := rst_pos x (f := 0) h hlt
  have h3 := occ_f h2
  rw [start_eq x a3 a4, decide_eq_false_iff_not] at h3
  refine ⟨hf, ?_⟩
  rw [a7, rs_no2 h3, hr, a6]
theorem rst_end {x : Str} {f : Int} (h : f = (rs (Lx x) ((rangeKs 1 ((x.length : Int) - 1).toNat).length + 1) : Int)) : f = (rs (Lx x) x.length : Int) := by
  rw [h, rangeKs_length]
  by_cases h0 : x.length = 0
  · rw [h0]; exact congrArg _ (rs_one _)
  · have e : ((x.length : Int) - 1).toNat + 1 = x.length := by omega
    rw [e]
theorem c_variable_end (x : Str) (k : Int) (t u : Tok) : Ct 146 1 (x.length ≤ 10000 ∧ 0 ≤ k ∧ k ≤ 10000) [.str x t, .int k u] (fun t => .int (varEnd (Lx x) k.toNat) t) := by
  unfold Ct
  k_fill
  w_top off
  k_with_none
  k_with "ite @" => first | with_reducible refine ite_tt ?_ | with_reducible refine ite_ff ?_
  dsimp only [CbRet]
  intro w mean mg mb news
  intros
  rename_i hp _ _ hret
  have hp1 := hp.1
  have hp2 := hp.2
  refine wpAny_call ?_
  k_dflt cell_enter
  k_with "state" => first | exact ⟨by omega, by omega, rfl⟩ | exact ve_step (by assumption) (by assumption) (by assumption) (by assumption) (by assumption)
  k_with "exec While BoolOp cons nil" => k_while (fun _ e => 0 ≤ e ∧ e ≤ 10000 ∧ varEnd (Lx x) e.toNat = varEnd (Lx x) k.toNat) (fun _ e => x.length - e.toNat) "at"
  k_steps
  · exact ret_of hret (ret_int (ve_stop (by with_reducible assumption) (by with_reducible assumption) (by with_reducible assumption) (by with_reducible assumption))) (by with_reducible assumption) (by assumption)
  · exact ret_of hret (ret_int (ve_over (by with_reducible assumption) (by with_reducible assumption) (by with_reducible assumption))) (by with_reducible assumption) (by assumption)
theorem cf_variable_end (x : Str) (k : Int) (t u : Tok) : Ct 146 1 (x.length ≤ 10000 ∧ 0 ≤ k ∧ k ≤ 10000) [.str x t, .int k u] (fun t => .int (varEnd (Lx x) k.toNat) t) ∧ ((x.length ≤ 10000 ∧ 0 ≤ k ∧ k ≤ 10000) → k ≤ (varEnd (Lx x) k.toNat : Int) ∧ (varEnd (Lx x) k.toNat : Int) ≤ max k x.length) := ⟨c_variable_end x k t u, fun h => by have h1 := varEnd_ge (Lx x) k.toNat; have h2 := varEnd_le (Lx x) k.toNat; have h3 := len_L x; omega⟩
theorem c_restart_of (x : Str) (t : Tok) : Ct 139 1 (x.length ≤ 10000) [.str x t] (fun t => .int (rs (Lx x) x.length) t) := by
  unfold Ct
  k_fill
  w_top off
  k_with_none
  k_with "ite @" => first | with_reducible refine ite_tt ?_ | with_reducible refine ite_ff ?_
  dsimp only [CbRet]
  intro w mean mg mb news
  intros
  rename_i hp _ _ hret
  refine wpAny_call ?_
  k_dflt cell_enter
  k_with "pyIter ref" => k_state (fun pre f => 0 ≤ f ∧ f = (rs (Lx x) (pre.length + 1) : Int)) "found"
  k_with "state" => first | exact rst_start x | exact rst_yes (f := 0) (by assumption) (by assumption) (by assumption) (by assumption) | exact rst_no1 (by assumption) (by assumption) (by assumption) (by assumption) (by assumption) | exact rst_no2 (by assumption) (by assumption) (by assumption) (by assumption) (by assumption)
  k_steps
  · exact ret_of hret (ret_int (rst_end (by with_reducible assumption))) (by with_reducible assumption) (by assumption)
theorem cf_restart_of (x : Str) (t : Tok) : Ct 139 1 (x.length ≤ 10000) [.str x t] (fun t => .int (rs (Lx x) x.length) t) ∧ ((x.length ≤ 10000) → rs (Lx x) x.length ≤ x.length) := ⟨c_restart_of x t, fun _ => rs_le _ _⟩
theorem bn_head {x y : Str} (h : Lx y = Lx x ++ [126]) : (Txt.slice y none (some ((x ++ Str.ofString ".~").length : Int)) != x ++ Str.ofString ".~") = true := by
  rw [slice_upto _ (by omega), app_S, mark_lit, L_S, bne_S, L_S, h, len_S, decide_eq_true_eq]
  have e : (((Lx x ++ [46, 126]).length : Nat) : Int).toNat = (Lx x).length + 2 := by simp; omega
  rw [e, List.take_of_length_le (by simp)]
  intro h2
  have := congrArg List.length h2
  simp at this
theorem lit_mark : (Str.ofString ".~").length = 2 := by decide +kernel
theorem bnk_y {x y : Str} {k : Int} (h : x.length ≤ 10000 ∧ 1 ≤ k ∧ k ≤ 1000 ∧ Lx y = numbered (Lx x) k) : y.length ≤ 20000 := by
  have := numbered_len (Lx x) (k := k) (by omega) (by omega)
  rw [← len_L, h.2.2.2]
  rw [len_L] at this
  omega
theorem bn0_y {x y : Str} (h : x.length ≤ 10000 ∧ Lx y = Lx x ++ [126]) : y.length ≤ 20000 := by
  rw [← len_L, h.2, List.length_append, len_L]
  simp; omega
theorem bnk_1 {x y : Str} {k : Int} (h : Lx y = numbered (Lx x) k) : (Txt.slice y none (some ((x ++ Str.ofString ".~").length : Int)) != x ++ Str.ofString ".~") = false := by
  rw [slice_upto _ (by omega), app_S, mark_lit, L_S, bne_S, L_S, h, len_S, decide_eq_false_iff_not]
  have e : (((Lx x ++ [46, 126]).length : Nat) : Int).toNat = (Lx x ++ [46, 126]).length := by omega
  rw [e]
  unfold numbered
  rw [List.append_assoc (Lx x ++ [46, 126]), List.take_left]
  simp
theorem bnk_2 {x y : Str} {k : Int} (h : Lx y = numbered (Lx x) k) : (Txt.slice y (some (-1)) none != Str.ofString "~") = false := by
  rw [slice_last, tilde_lit, bne_S, L_S, h, decide_eq_false_iff_not]
  simp only [numbered, List.length_append, List.length_cons, List.length_nil]
  rw [List.drop_append_of_le_length (by simp; omega)]
  rw [List.drop_eq_nil_of_le (by simp; omega)]
  simp
theorem bnk_3 {x y : Str} {k : Int} (h : Lx y = numbered (Lx x) k) : Txt.slice y (some ((x ++ Str.ofString ".~").length : Int)) (some ((y.length : Int) - 1)) = S (figs k) := by
  have hl := len_L y
  have e0 : (Lx y).length = (Lx x ++ [46, 126]).length + (figs k).length + 1 := by rw [h]; simp [numbered]; omega
  rw [app_S, mark_lit, L_S, len_S, slice_mid _ (by omega) (by omega), h]
  have e1 : ((y.length : Int) - 1).toNat - (((Lx x ++ [46, 126]).length : Nat) : Int).toNat = (figs k).length := by omega
  have e2 : (((Lx x ++ [46, 126]).length : Nat) : Int).toNat = (Lx x ++ [46, 126]).length := by omega
  rw [e1, e2]
  simp [numbered]
noncomputable def digv (l : List Nat) : Int := l.foldl (fun (a : Int) (c : Nat) => 10 * a + ((c : Int) - 48)) 0
noncomputable def digI (l : List Int) : Int := l.foldl (fun (a : Int) (c : Int) => 10 * a + (c - 48)) 0
theorem digI_map (l : List Nat) : digI (l.map fun (c : Nat) => (c : Int)) = digv l := by
  unfold digI digv
  rw [List.foldl_map]
theorem digI_snoc (l : List Int) (c : Int) : digI (l ++ [c]) = 10 * digI l + (c - 48) := by simp [digI]
theorem dg_all : ∀ n : Nat, n ≤ 1000 → 1 ≤ n → (dg n).getD 0 48 ≠ 48 ∧ digv (dg n) = n ∧ (dg n).all isDig = true ∧ ∀ j, j ≤ 4 → 0 ≤ digv ((dg n).take j) ∧ digv ((dg n).take j) ≤ 1000 := by decide +kernel
theorem figs_all (n : Nat) (h : n ≤ 1000) (h1 : 1 ≤ n) : (figs (n : Int)).length ≤ 4 ∧ 1 ≤ (figs (n : Int)).length ∧ (figs (n : Int)).getD 0 48 ≠ 48 ∧ digv (figs (n : Int)) = n ∧ (figs (n : Int)).all isDig = true ∧ ∀ j, j ≤ 4 → 0 ≤ digv ((figs (n : Int)).take j) ∧ digv ((figs (n : Int)).take j) ≤ 1000 := by
  rw [figs_dg n h]
  exact ⟨(dg_len n).1, (dg_len n).2, dg_all n h h1⟩
theorem figs_k {k : Int} (h0 : 1 ≤ k) (h1 : k ≤ 1000) : (figs k).length ≤ 4 ∧ 1 ≤ (figs k).length ∧ (figs k).getD 0 48 ≠ 48 ∧ digv (figs k) = k ∧ (figs k).all isDig = true ∧ ∀ j, j ≤ 4 → 0 ≤ digv ((figs k).take j) ∧ digv ((figs k).take j) ≤ 1000 := by
  obtain ⟨n, rfl⟩ : ∃ n : Nat, k = n := ⟨k.toNat, by omega⟩
  exact figs_all n (by omega) (by omega)
theorem codes_S (l : List Nat) : KStt.codes (S l) = l.map fun (c : Nat) => (c : Int) := by simp [KStt.codes, S]
theorem find_dig : ∀ c : Nat, isDig c = true → Txt.find (Str.ofString "0123456789") { cps := #[c] } = (c : Int) - 48 := by
  intro c h
  unfold isDig at h
  rw [decide_eq_true_eq] at h
  simp only [List.mem_cons, List.not_mem_nil, or_false] at h
  rcases h with rfl | rfl | rfl | rfl | rfl | rfl | rfl | rfl | rfl | rfl <;> decide +kernel
theorem bk_pre {T : Str} {k : Int} {p q : List Int} {c : Nat} (h0 : 1 ≤ k) (h1 : k ≤ 1000) (hT : T = S (figs k)) (e : KStt.codes T = p ++ (c : Int) :: q) :
    p = ((figs k).take p.length).map (fun (c : Nat) => (c : Int)) ∧ p ++ [(c : Int)] = ((figs k).take (p.length + 1)).map (fun (c : Nat) => (c : Int)) ∧ p.length + 1 ≤ 4 ∧ isDig c = true := by
  have hf := figs_k h0 h1
  rw [hT, codes_S] at e
  have hl := congrArg List.length e
  simp only [List.length_map, List.length_append, List.length_cons] at hl
  refine ⟨?_, ?_, by omega, ?_⟩
  · have := congrArg (List.take p.length) e
    rw [← List.map_take] at this
    rw [this, List.take_left]
  · have := congrArg (List.take (p.length + 1)) e
    rw [← List.map_take] at this
    rw [this]
    have e2 : p ++ (c : Int) :: q = (p ++ [(c : Int)]) ++ q := by simp
    rw [e2, List.take_left' (by simp)]
  · have hm : (c : Int) ∈ (figs k).map (fun (c : Nat) => (c : Int)) := by rw [e]; simp
    obtain ⟨d, hd, hdc⟩ := List.mem_map.mp hm
    have : d = c := by omega
    subst this
    exact List.all_eq_true.mp hf.2.2.2.2.1 d hd
theorem bk_step {T : Str} {k f : Int} {p q : List Int} {c : Nat} (h0 : 1 ≤ k) (h1 : k ≤ 1000) (hT : T = S (figs k)) (e : KStt.codes T = p ++ (c : Int) :: q) (h : f = digI p) :
    0 ≤ 10 * f + Txt.find (Str.ofString "0123456789") { cps := #[c] } ∧ 10 * f + Txt.find (Str.ofString "0123456789") { cps := #[c] } ≤ 1000 ∧ 10 * f + Txt.find (Str.ofString "0123456789") { cps := #[c] } = digI (p ++ [(c : Int)]) := by
  obtain ⟨a1, a2, a3, a4⟩ := bk_pre h0 h1 hT e
  have hf := (figs_k h0 h1).2.2.2.2.2 (p.length + 1) a3
  have e1 : 10 * f + Txt.find (Str.ofString "0123456789") { cps := #[c] } = digI (p ++ [(c : Int)]) := by rw [find_dig c a4, digI_snoc, h]
  rw [e1]
  rw [a2, digI_map]
  exact ⟨hf.1, hf.2, rfl⟩
theorem bk_no {T : Str} {k : Int} {p q : List Int} {c : Nat} (h0 : 1 ≤ k) (h1 : k ≤ 1000) (hT : T = S (figs k)) (e : KStt.codes T = p ++ (c : Int) :: q) (h : (Builtin.Str.occurrences (Str.ofString "0123456789") { cps := #[c] } 0 (Str.ofString "0123456789").length 1).isEmpty = true) : False := by
  obtain ⟨a1, a2, a3, a4⟩ := bk_pre h0 h1 hT e
  have := occ_f h
  have e2 : ({ cps := #[c] } : Str) = S [c] := rfl
  rw [digits_lit, e2, contains_one, L_S] at this
  unfold isDig at a4
  rw [a4] at this
  cases this
theorem bk_end {T : Str} {k f : Int} (h0 : 1 ≤ k) (h1 : k ≤ 1000) (hT : T = S (figs k)) (h : f = digI (KStt.codes T)) : f = k := by
  rw [h, hT, codes_S, digI_map]
  exact (figs_k h0 h1).2.2.2.1
theorem bk_facts {T : Str} {k : Int} (h0 : 1 ≤ k) (h1 : k ≤ 1000) (hT : T = S (figs k)) : (T == Str.ofString "") = false ∧ ¬ (9 : Int) < (T.length : Int) ∧ 1 ≤ T.length ∧ (Txt.item T 0 == Str.ofString "0") = false := by
  have hf := figs_k h0 h1
  have e0 : Str.ofString "0" = S [48] := by decide +kernel
  rw [hT, len_S, empty_lit, beq_S, L_S, e0, item_is _ (by decide) (by rw [len_S]; omega), L_S]
  refine ⟨?_, by omega, by omega, ?_⟩
  · rw [decide_eq_false_iff_not]
    intro h
    rw [h] at hf
    exact absurd hf.2.1 (by decide)
  · rw [decide_eq_false_iff_not]
    intro h
    refine hf.2.2.1 ?_
    rw [← h]
    have hlt : 0 < (figs k).length := hf.2.1
    simp [List.getD_eq_getElem?_getD, List.getElem?_eq_getElem hlt]
theorem c_backup_number_0 (x y : Str) (t u : Tok) : Ct 181 1 (x.length ≤ 10000 ∧ Lx y = Lx x ++ [126]) [.str x t, .str y u] (fun t => .int 0 t) := by
  unfold Ct
  k_fill
  w_top off
  k_with_none
  k_with "ite @" => first | with_reducible refine ite_tt ?_ | with_reducible refine ite_ff ?_
  dsimp only [CbRet]
  intro w mean mg mb news
  intros
  rename_i hp _ _ hret
  have hp1 := hp.1
  have hp2 := hp.2
  have hy := bn0_y hp
  have hq := lit_mark
  have z1 := bn_head hp2
  refine wpAny_call ?_
  k_dflt cell_enter
  k_steps
  · exact ret_of hret (ret_int (rfl)) (by with_reducible assumption) (by assumption)
theorem cf_backup_number_0 (x y : Str) (t u : Tok) : Ct 181 1 (x.length ≤ 10000 ∧ Lx y = Lx x ++ [126]) [.str x t, .str y u] (fun t => .int 0 t) ∧ ((x.length ≤ 10000 ∧ Lx y = Lx x ++ [126]) → True) := ⟨c_backup_number_0 x y t u, fun _ => True.intro⟩
theorem c_backup_number_k (x y : Str) (k : Int) (t u : Tok) : Ct 181 1 (x.length ≤ 10000 ∧ 1 ≤ k ∧ k ≤ 1000 ∧ Lx y = numbered (Lx x) k) [.str x t, .str y u] (fun t => .int k t) := by
  unfold Ct
  k_fill
  w_top off
  k_with_none
  k_with "ite @" => first | with_reducible refine ite_tt ?_ | with_reducible refine ite_ff ?_
  dsimp only [CbRet]
  intro w mean mg mb news
  intros
  rename_i hp _ _ hret
  have hp1 := hp.1
  have hp2 := hp.2
  have hy := bnk_y hp
  have hq := lit_mark
  have z1 := bnk_1 hp2.2.2
  have z2 := bnk_2 hp2.2.2
  have hT := bnk_3 hp2.2.2
  obtain ⟨z3, z4, z5, z6⟩ := bk_facts hp2.1 hp2.2.1 hT
  refine wpAny_call ?_
  k_dflt cell_enter
  k_with "pyIter str" => k_state (fun pre f => 0 ≤ f ∧ f ≤ 1000 ∧ f = digI pre) "found"
  k_with "state" => first | exact ⟨by decide, by decide, rfl⟩ | exact bk_step hp2.1 hp2.2.1 hT (by assumption) (by assumption)
  k_steps
  · exact (bk_no hp2.1 hp2.2.1 hT (by assumption) (by assumption)).elim
  · exact ret_of hret (ret_int (bk_end hp2.1 hp2.2.1 hT (by with_reducible assumption))) (by with_reducible assumption) (by assumption)
theorem cf_backup_number_k (x y : Str) (k : Int) (t u : Tok) : Ct 181 1 (x.length ≤ 10000 ∧ 1 ≤ k ∧ k ≤ 1000 ∧ Lx y = numbered (Lx x) k) [.str x t, .str y u] (fun t => .int k t) ∧ ((x.length ≤ 10000 ∧ 1 ≤ k ∧ k ≤ 1000 ∧ Lx y = numbered (Lx x) k) → True) := ⟨c_backup_number_k x y k t u, fun _ => True.intro⟩
end Mine
end
section
open PySem PySem.W PyProof.Rows
set_option maxRecDepth 100000
set_option maxHeartbeats 8000000
namespace Mine
theorem updF_same {d : Addr} {o : Obj} {l : List (Addr × Obj)} {g : Obj → List (Addr × Obj)} (U : UpdF d o l g) : g o = l := by
  induction U with
  | head _ => rfl
  | tail _ _ ih => show _ :: _ = _; rw [ih]
theorem updF_upd {d : Addr} {o : Obj} {l : List (Addr × Obj)} {g : Obj → List (Addr × Obj)} (U : UpdF d o l g) (o' : Obj) : Upd d o o' l (g o') := by
  induction U with
  | head h => exact .head h
  | tail h _ ih => exact .tail h ih
theorem updF_mem {d : Addr} {o : Obj} {l : List (Addr × Obj)} {g : Obj → List (Addr × Obj)} (U : UpdF d o l g) : (d, o) ∈ l := by
  induction U with
  | head h => exact .head _
  | tail h _ ih => exact .tail _ ih
theorem ne_of_mem {D d : Addr} {o : Obj} {l : List (Addr × Obj)} (h : ∀ p ∈ l, p.1 < D) (hm : (d, o) ∈ l) : D ≠ d := Nat.ne_of_gt (h _ hm)
section
variable {prog : Program} {w : World} {A : Around} {E : Value → Shared → Prop} {s : Shared} {h₀ : Heap} {L D d : Addr} {m : Str → Option Value} {news news' : List (Addr × Obj)} {n n' : Nat} {Q : Value → Shared → Prop}
theorem pop0 {y : Value} {q : List Value} {u : Tok} (F : Fr h₀ L s.heap m) (N : News h₀ L s.heap news) (U : Upd D (listOf (y :: q).toArray n) (listOf q.toArray (n + 1)) news news') (hz : (y :: q).length ≤ 100)
    (h : ∀ h', Fr h₀ L h' m → News h₀ L h' news' → Q y { s with heap := h' }) : wpAny (model prog w) A (call (.builtin "list.pop") [.ref D, .int 0 u]) Q E s := by
  refine kl_popAt (k := 0) (p := []) (q := q) F N (by decide) ?_ ?_ (by simpa using U) ?_ h
  · rw [List.size_toArray, List.length_cons, seqIndex_of (by decide) (by omega)]; rfl
  · rfl
  · rw [sizeLine_eq]; show (y :: q).length ≤ _; omega
theorem ne_nil {vs : List Value} {ks : List Int} (N : News h₀ L s.heap news) (hm : (d, listOf vs.toArray n) ∈ news) (hm' : (D, listOf ([] : List Value).toArray n') ∈ news) (hi : IntsAre vs ks) (hu : A.units + 64 < cLine)
    (h : Q (.bool (!decide (ks = []))) s) : wpAny (model prog w) A (compareOp .NotEq (.ref d) (.ref D)) Q E s :=
  ne_intsK (News.isList N hm) hi (News.isList N hm') .nil hu h
end
noncomputable def CtD (many : Int) : Prop :=
  ∀ (w : World) (mean : ExcName → Option Value) (mg mb : Str → Option Value) (news : List (Addr × Obj)) (g : Obj → List (Addr × Obj)) (d : Addr) (vs : List Value) (ks : List Int) (n : Nat) (tm : Tok) (dp un : Nat) (gd : Option (List Code)) (cn : Str) (cs : Scope) (a : Addr) (ccd : Value) (cl : List (Str × Addr)) (outer : List Env) (A₀ : Around) (base h₀ : Heap) (L : Addr) (m : Str → Option Value) (s : Shared) (Q E : Value → Shared → Prop),
    Below A₀ base outer h₀ → Fr h₀ L s.heap m → (hd.heap_1 w.params).In h₀ → News h₀ L s.heap news → Top hd.view_1 (looseW hd.view_1 []) mean mg mb h₀ → cs.kind = .function → UpdF d (listOf vs.toArray n) news g → IntsAre vs ks → vs.length ≤ 100 →
    dp + 1 < recursionLimit → un + 100 < cLine → (∀ (r : Int) (t : Tok) (vs' : List Value) (ks' : List Int) (n' : Nat) (h' : Heap) (tk' : Nat), 0 ≤ r → r < many → IntsAre vs' ks' → vs'.length ≤ 100 → Fr h₀ L h' m → News h₀ L h' (g (listOf vs'.toArray n')) → Q (.int r t) { s with heap := h', toks := tk' }) →
    wpAny (model PySem.Challenge.rw_np0038_01.row.prog w) (ktrTop dp un gd cn cs L a ccd cl outer) (call (.ref 216) [.ref d, .int many tm]) Q E s
theorem c_draw (many : Int) (h0 : 1 ≤ many) (h1 : many ≤ 1000) : CtD many := by
  unfold CtD
  k_fill
  w_top off
  k_with_none
  k_with "ite @" => first | with_reducible refine ite_tt ?_ | with_reducible refine ite_ff ?_
  k_with "compareOp NotEq ref ref @" => (k_here; (with_reducible show wpAny _ _ (compareOp CmpOp.NotEq (Value.ref _) (Value.ref _)) _ _ _); k_dflt (refine' ne_nil ?Nq31 ?mq31 ?m'q31 ?iq31 ?uq31 ?_; (case Nq31 => k_asm); (case mq31 => first | (refine List.Mem.tail _ ?_; assumption)); (case m'q31 => exact List.Mem.head _); (case iq31 => first | exact .nil | exact .cons _ _ (by assumption)); (case uq31 => first | units_room | ktr_units)))
  k_with "call builtin:list.pop @" => (k_here; (with_reducible show wpAny _ _ (call (Value.builtin _) [Value.ref _, Value.int 0 _]) _ _ _); k_dflt (refine' pop0 ?Fq32 ?Nq32 ?Uq32 ?zq32 ?_; (case Fq32 => k_asm); (case Nq32 => k_asm); (case Uq32 => exact Upd.tail (ne_of_mem (by assumption) (by assumption)) (updF_upd (by assumption) _)); (case zq32 => assumption)); intro h' F' N')
  k_with "getMethod ref @" => (k_here; (with_reducible show wpAny _ _ (getMethod (Value.ref _) (PySem.Str.ofString "pop") _) _ _ _); k_dflt (refine' kl_method ?Nq33 ?mq33 PySem.F.slot_list_pop PySem.F.type_list_pop ?_; (case Nq33 => k_asm); (case mq33 => (refine List.Mem.tail _ ?_; assumption))))
  intro w mean mg mb news g d vs
  intros
  rename_i hU hi hlen _ _ hret
  have hM := updF_mem hU
  cases hi with
  | nil =>
    refine wpAny_call ?_
    k_dflt cell_enter
    k_steps
    · (rename News _ _ _ (_ :: _) => nZ)
      exact hret 0 _ [] [] _ _ _ (by decide) (by omega) .nil (by decide) (by with_reducible assumption) (fun p hp => nZ p (.tail _ (updF_same hU ▸ hp)))
  | cons k t r =>
    rename_i ns9
    have hz9 : ¬ k :: ns9 = [] := List.cons_ne_nil _ _
    have hy9 : many ≠ 0 := by omega
    refine wpAny_call ?_
    k_dflt cell_enter
    k_steps
    · (rename News _ _ _ (_ :: _) => nZ)
      exact hret _ _ _ _ _ _ _ (Int.fmod_nonneg_of_pos _ (by omega)) (Int.fmod_lt_of_pos _ (by omega)) (by assumption) (by simp only [List.length_cons] at hlen; omega) (by with_reducible assumption) (fun p hp => nZ p (.tail _ hp))
end Mine
end
section
open PySem PySem.W PyProof.Rows PySem.Calls
namespace Mine
theorem cut_app (c : Nat) : ∀ (a b : List Nat), cut c (a ++ c :: b) = cut c a ++ cut c b
  | [], b => by simp [cut]
  | d :: a, b => by
    have ih := cut_app c a b
    simp only [List.cons_append]
    rw [cut, cut, ih]
    by_cases h : d = c
    · rw [if_pos h, if_pos h, List.cons_append]
    · rw [if_neg h, if_neg h]
      cases e : cut c a with
      | nil => exact absurd e (cut_ne c a)
      | cons p ps => rfl
noncomputable def TailOk (l : List Nat) : Prop := ∀ p ∈ (cut 47 l).tail, p ≠ [126]
noncomputable def NInv (l : List Nat) : Prop := TailOk l ∧ (tw 47 l = [] ∨ l = [126])
theorem tail_app {A B : List (List Nat)} (h : A ≠ []) : (A ++ B).tail = A.tail ++ B := by
  cases A with
  | nil => exact absurd rfl h
  | cons a r => rfl
theorem tailOk_app {a b : List Nat} (ha : TailOk a) (hb : ∀ p ∈ cut 47 b, p ≠ [126]) : TailOk (a ++ 47 :: b) := by
  unfold TailOk
  rw [cut_app, tail_app (cut_ne 47 a)]
  intro p hp
  rcases List.mem_append.mp hp with h | h
  · exact ha p h
  · exact hb p h
theorem tw_nil {l : List Nat} (h : tw 47 l = []) : l = [] ∨ ∃ a, l = a ++ [47] := by
  by_cases hm : 47 ∈ l
  · obtain ⟨a, ha⟩ := split_last hm
    rw [h] at ha
    exact .inr ⟨a, ha⟩
  · rw [tw_free hm] at h
    exact .inl h
theorem tailOk_front {a b : List Nat} (h : TailOk (a ++ 47 :: b)) : TailOk a := by
  unfold TailOk at *
  rw [cut_app, tail_app (cut_ne 47 a)] at h
  exact fun p hp => h p (List.mem_append.mpr (.inl hp))
theorem nInv_mid {f i : List Nat} (hf : NInv f) (hi : 47 ∉ i) (hn : i ≠ []) (ht : i ≠ [126]) : TailOk (f ++ i) := by
  obtain ⟨h1, h2⟩ := hf
  rcases h2 with h2 | rfl
  · rcases tw_nil h2 with rfl | ⟨a, rfl⟩
    · unfold TailOk
      rw [List.nil_append, cut_none 47 i hi]
      simp
    · have e : a ++ [47] ++ i = a ++ 47 :: i := by simp
      rw [e]
      refine tailOk_app (tailOk_front (b := []) h1) ?_
      rw [cut_none 47 i hi]
      simpa using ht
  · unfold TailOk
    have h3 : 47 ∉ [126] ++ i := by simpa using hi
    rw [cut_none 47 _ h3]
    simp
theorem nInv_step {f i sl : List Nat} (hf : NInv f) (hi : 47 ∉ i) (hn : i ≠ []) (ht : i ≠ [126]) (hs : sl = [47] ∨ sl = [47, 47]) : NInv (f ++ i ++ sl) := by
  have h := nInv_mid hf hi hn ht
  rcases hs with rfl | rfl
  · exact ⟨tailOk_app h (by simp [cut]), .inl (tw_snoc 47 _)⟩
  · have e : f ++ i ++ [47, 47] = (f ++ i ++ [47]) ++ [47] := by simp
    refine ⟨tailOk_app h (by simp [cut]), .inl ?_⟩
    rw [e, tw_snoc]
theorem nInv_last {f : List Nat} (hf : TailOk f) (h : f.drop (f.length - 1) = [47]) : TailOk (f.take (f.length - 1)) := by
  have e : f = f.take (f.length - 1) ++ 47 :: [] := by
    conv => lhs; rw [← List.take_append_drop (f.length - 1) f, h]
  rw [e] at hf
  exact tailOk_front hf
theorem start_ok : ∀ x ∈ [Str.ofString "", Str.ofString "/", Str.ofString "~/", Str.ofString "~", Str.ofString "//"], NInv (Lx x) ∧ x.length ≤ 2 := by
  have h : ∀ x ∈ [Str.ofString "", Str.ofString "/", Str.ofString "~/", Str.ofString "~", Str.ofString "//"], ((∀ p ∈ (cut 47 (Lx x)).tail, p ≠ [126]) ∧ (tw 47 (Lx x) = [] ∨ Lx x = [126])) ∧ x.length ≤ 2 := by decide +kernel
  exact h
theorem item_ok : ∀ x ∈ [Str.ofString "a", Str.ofString "b.c", Str.ofString ".", Str.ofString "..", Str.ofString ".d", Str.ofString "e.f.~12~", Str.ofString "g~", Str.ofString "h.i~"], 47 ∉ Lx x ∧ Lx x ≠ [] ∧ Lx x ≠ [126] ∧ x.length ≤ 8 := by decide +kernel
theorem slash_ok : ∀ x ∈ [Str.ofString "/", Str.ofString "//"], (Lx x = [47] ∨ Lx x = [47, 47]) ∧ x.length ≤ 2 := by decide +kernel
theorem name_step {f i sl : Str} (hf : NInv (Lx f)) (hi : i ∈ [Str.ofString "a", Str.ofString "b.c", Str.ofString ".", Str.ofString "..", Str.ofString ".d", Str.ofString "e.f.~12~", Str.ofString "g~", Str.ofString "h.i~"]) (hs : sl ∈ [Str.ofString "/", Str.ofString "//"]) :
    NInv (Lx (f ++ i ++ sl)) := by
  obtain ⟨h1, h2, h3, _⟩ := item_ok i hi
  obtain ⟨h4, _⟩ := slash_ok sl hs
  simp only [app_S, L_S]
  exact nInv_step hf h1 h2 h3 h4
theorem name_len {f i sl : Str} {n : Nat} (hf : f.length ≤ n) (hi : i ∈ [Str.ofString "a", Str.ofString "b.c", Str.ofString ".", Str.ofString "..", Str.ofString ".d", Str.ofString "e.f.~12~", Str.ofString "g~", Str.ofString "h.i~"]) (hs : sl ∈ [Str.ofString "/", Str.ofString "//"]) :
    (f ++ i ++ sl).length ≤ n + 10 := by
  obtain ⟨_, _, _, h1⟩ := item_ok i hi
  obtain ⟨_, h2⟩ := slash_ok sl hs
  rw [← len_L] at *
  simp only [app_S, L_S, List.length_append]
  omega
noncomputable def NameOk (x : Str) : Prop := TailOk (Lx x) ∧ x.length ≤ 60
theorem name_cut {f : Str} (hf : NInv (Lx f)) (hl : f.length ≤ 60) (h : (Txt.slice f (some (-1)) none == Str.ofString "/") = true) : NameOk (Txt.slice f none (some ((f.length : Int) - 1))) := by
  have hL := len_L f
  rw [slash_lit, end_eq, decide_eq_true_eq] at h
  have hpos : 1 ≤ (Lx f).length := by
    have := congrArg List.length h
    rw [List.length_drop, List.length_singleton] at this
    omega
  rw [slice_upto f (by omega)]
  have e : ((f.length : Int) - 1).toNat = (Lx f).length - 1 := by omega
  rw [e]
  refine ⟨?_, ?_⟩
  · rw [L_S]; exact nInv_last hf.1 h
  · rw [len_S, List.length_take]; omega
section
variable {prog : Program} {w : World} {A : Around} {E : Value → Shared → Prop} {s : Shared} {h₀ : Heap} {L D d : Addr} {m : Str → Option Value} {news : List (Addr × Obj)} {Q : Value → Shared → Prop}
theorem item_lit {value slice : PySem.Expr} {vs : List Value} {xs : List Str} {c : Nat} {k : Int} {u : Tok} (N : News h₀ L s.heap news) (hm : (D, listOf vs.toArray c) ∈ news) (hi : StrsAre vs xs) (h0 : 0 ≤ k) (hk : k < xs.length) (hz : xs.length ≤ 100) (hM : xs.all (fun x => decide (x.length ≤ 20)) = true)
    (h : ∀ x t, x ∈ xs → x.length ≤ 20 → Q (.str x t) s)
    (hs : subscripted slice false (.ref D) (.int k u) = operate [.ref D, .int k u] (getItem (.ref D) (.int k u))) :
    wpAny (model prog w) A (subscriptTail value slice (.ref D) (.int k u)) Q E s := by
  have hlt : k.toNat < xs.length := by omega
  have e : xs[k.toNat]? = some xs[k.toNat] := List.getElem?_eq_getElem hlt
  obtain ⟨t, ht⟩ := hi.at e
  refine tail_any (News.isList N hm).typeIs slot_list_getitem.lookup (wpAny_getItem_list (News.isList N hm) h0 (by omega) (by simpa using ht) (h _ t (List.getElem_mem hlt) ?_)) hs
  have := List.all_eq_true.mp hM _ (List.getElem_mem hlt)
  simpa using this
end
theorem updF_again {d : Addr} {o : Obj} {l : List (Addr × Obj)} {g : Obj → List (Addr × Obj)} (U : UpdF d o l g) (o' : Obj) : UpdF d o' (g o') g := by
  induction U with
  | head h => exact .head h
  | tail h _ ih => exact .tail h ih
theorem updF_fst {d : Addr} {o : Obj} {l : List (Addr × Obj)} {g : Obj → List (Addr × Obj)} (U : UpdF d o l g) (o' o'' : Obj) : (g o').map (·.1) = (g o'').map (·.1) := by
  induction U with
  | head h => rfl
  | tail h _ ih => simp only [List.map_cons, ih]
theorem updF_append {d : Addr} {o : Obj} {l own : List (Addr × Obj)} {g : Obj → List (Addr × Obj)} (U : UpdF d o l g) (h : OwnOff own (l.map (·.1))) : UpdF d o (l ++ own) (fun o' => g o' ++ own) := by
  have hd := updF_mem U
  have hq : ∀ p ∈ own, p.1 ≠ d := fun p hp e => h p hp d (List.mem_map.mpr ⟨_, hd, rfl⟩) e
  clear h hd
  induction U with
  | head h =>
    refine .head ?_
    intro p hp
    rcases List.mem_append.mp hp with hp | hp
    · exact h p hp
    · exact hq p hp
  | tail h _ ih => exact .tail h ih
theorem ne_of_mem3 {A B C : Prop} {D d : Addr} {o : Obj} {l : List (Addr × Obj)} (h : A ∧ B ∧ C ∧ AllLt D l) (hm : (d, o) ∈ l) : D ≠ d := Nat.ne_of_gt (kst_ltOf h.2.2.2 _ hm)
structure Stop (p : Prop) : Prop where
  mk :: (un : p)
theorem stop {p : Prop} (h : Stop p) : p := h.un
theorem ne_of_mem1 {A : Prop} {D d : Addr} {o : Obj} {l : List (Addr × Obj)} (h : A ∧ AllLt D l) (hm : (d, o) ∈ l) : D ≠ d := Nat.ne_of_gt (kst_ltOf h.2 _ hm)
theorem ne_of_mem2 {A B : Prop} {D d : Addr} {o : Obj} {l : List (Addr × Obj)} (h : A ∧ B ∧ AllLt D l) (hm : (d, o) ∈ l) : D ≠ d := Nat.ne_of_gt (kst_ltOf h.2.2 _ hm)
noncomputable def OffAll (g : Obj → List (Addr × Obj)) (own : List (Addr × Obj)) : Prop := ∀ o, OwnOff own ((g o).map (·.1))
theorem offAll_of {d : Addr} {o : Obj} {l own : List (Addr × Obj)} {g : Obj → List (Addr × Obj)} (U : UpdF d o l g) {o' : Obj} (h : OwnOff own ((g o').map (·.1))) : OffAll g own := fun o'' => by rw [updF_fst U o'' o']; exact h
theorem updF_own {d : Addr} {o o0 : Obj} {l own : List (Addr × Obj)} {g : Obj → List (Addr × Obj)} (U : UpdF d o0 l g) (h : OffAll g own) : UpdF d o (g o ++ own) (fun o' => g o' ++ own) := updF_append (updF_again U o) (h o)
/-- the use of _law_draw -/
theorem CtD.use {many : Int} (C : CtD many) {w : World} {mean : ExcName → Option Value} {mg mb : Str → Option Value} {news : List (Addr × Obj)} {g : Obj → List (Addr × Obj)} {d : Addr} {vs : List Value} {ks : List Int} {n : Nat} {tm : Tok} {dp un : Nat} {gd : Option (List Code)} {cn : Str} {cs : Scope} {a : Addr} {ccd : Value} {cl : List (Str × Addr)} {outer : List Env} {A₀ : Around} {base h₀ : Heap} {L : Addr} {m : Str → Option Value} {s : Shared} {Q E : Value → Shared → Prop}
    (B : Below A₀ base outer h₀) (F : Fr h₀ L s.heap m) (X : (hd.heap_1 w.params).In h₀) (N : News h₀ L s.heap news) (T : Top hd.view_1 (looseW hd.view_1 []) mean mg mb h₀) (hk : cs.kind = .function) (U : UpdF d (listOf vs.toArray n) news g) (hi : IntsAre vs ks) (hl : vs.length ≤ 100)
    (hd : dp + 1 < recursionLimit) (hu : un + 100 < cLine) (hret : ∀ (r : Int) (t : Tok) (vs' : List Value) (ks' : List Int) (n' : Nat) (h' : Heap) (tk' : Nat), 0 ≤ r → r < many → IntsAre vs' ks' → vs'.length ≤ 100 → Fr h₀ L h' m → News h₀ L h' (g (listOf vs'.toArray n')) → Q (.int r t) { s with heap := h', toks := tk' }) :
    wpAny (model PySem.Challenge.rw_np0038_01.row.prog w) (ktrTop dp un gd cn cs L a ccd cl outer) (call (.ref 216) [.ref d, .int many tm]) Q E s :=
  C w mean mg mb news g d vs ks n tm dp un gd cn cs a ccd cl outer A₀ base h₀ L m s Q E B F X N T hk U hi hl hd hu hret
end Mine
namespace Mine
theorem nameOk_len {x : Str} (h : NameOk x) : x.length ≤ 60 := h.2
end Mine
namespace Mine
theorem ne_slot {d D : Addr} {o o1 o2 : Obj} {l : List (Addr × Obj)} {g : Obj → List (Addr × Obj)} (U : UpdF d o l g) (h : ∀ p ∈ g o1, p.1 < D) : ∀ p ∈ g o2, p.1 ≠ D := by
  intro p hp e
  have e1 := updF_fst U o2 o1
  have h1 : p.1 ∈ (g o1).map (·.1) := by rw [← e1]; exact List.mem_map.mpr ⟨p, hp, rfl⟩
  obtain ⟨q, hq, hqp⟩ := List.mem_map.mp h1
  have := h q hq
  have h2 : q.1 = D := hqp.trans e
  rw [h2] at this
  exact Nat.lt_irrefl _ this
theorem ne_slot1 {A : Prop} {d D : Addr} {o o1 o2 : Obj} {l : List (Addr × Obj)} {g : Obj → List (Addr × Obj)} (U : UpdF d o l g) (h : A ∧ AllLt D (g o1)) : ∀ p ∈ g o2, p.1 ≠ D := ne_slot U (kst_ltOf h.2)
theorem ne_slot2 {A B : Prop} {d D : Addr} {o o1 o2 : Obj} {l : List (Addr × Obj)} {g : Obj → List (Addr × Obj)} (U : UpdF d o l g) (h : A ∧ B ∧ AllLt D (g o1)) : ∀ p ∈ g o2, p.1 ≠ D := ne_slot U (kst_ltOf h.2.2)
end Mine
end
section
open PySem PySem.W PyProof.Rows
set_option maxRecDepth 100000
set_option maxHeartbeats 8000000
namespace Mine
noncomputable def CtN : Prop :=
  ∀ (w : World) (mean : ExcName → Option Value) (mg mb : Str → Option Value) (news : List (Addr × Obj)) (g : Obj → List (Addr × Obj)) (d : Addr) (vs : List Value) (ks : List Int) (n : Nat) (dp un : Nat) (gd : Option (List Code)) (cn : Str) (cs : Scope) (a : Addr) (ccd : Value) (cl : List (Str × Addr)) (outer : List Env) (A₀ : Around) (base h₀ : Heap) (L : Addr) (m : Str → Option Value) (s : Shared) (Q E : Value → Shared → Prop),
    Below A₀ base outer h₀ → Fr h₀ L s.heap m → (hd.heap_1 w.params).In h₀ → News h₀ L s.heap news → Top hd.view_1 (looseW hd.view_1 []) mean mg mb h₀ → cs.kind = .function → UpdF d (listOf vs.toArray n) news g → IntsAre vs ks → vs.length ≤ 100 →
    dp + 2 < recursionLimit → un + 200 < cLine → (∀ (x : Str) (t : Tok) (vs' : List Value) (ks' : List Int) (n' : Nat) (h' : Heap) (tk' : Nat), NameOk x → IntsAre vs' ks' → vs'.length ≤ 100 → Fr h₀ L h' m → News h₀ L h' (g (listOf vs'.toArray n')) → Q (.str x t) { s with heap := h', toks := tk' }) →
    wpAny (model PySem.Challenge.rw_np0038_01.row.prog w) (ktrTop dp un gd cn cs L a ccd cl outer) (call (.ref 223) [.ref d]) Q E s
structure NS where
  vs : List Value
  ks : List Int
  n : Nat
  f : Str
  t : Tok
theorem c_name : CtN := by
  unfold CtN
  k_fill
  w_top off
  k_with_none
  k_with "ite @" => first | with_reducible refine ite_tt ?_ | with_reducible refine ite_ff ?_
  k_with "k_updF @" => first | exact updF_again (by with_reducible assumption) _ | exact updF_own (by with_reducible assumption) (by with_reducible assumption) | (refine' UpdF.tail ?aq35 ?bq35; (case aq35 => first | exact ne_of_mem (by with_reducible assumption) (updF_mem (updF_again (by with_reducible assumption) _)) | exact ne_of_mem (by with_reducible assumption) (List.mem_append.mpr (.inl (updF_mem (updF_again (by with_reducible assumption) _)))) | exact ne_of_mem1 (by with_reducible assumption) (updF_mem (updF_again (by with_reducible assumption) _)) | exact ne_of_mem1 (by with_reducible assumption) (List.mem_append.mpr (.inl (updF_mem (updF_again (by with_reducible assumption) _)))) | exact ne_of_mem2 (by with_reducible assumption) (updF_mem (updF_again (by with_reducible assumption) _)) | exact ne_of_mem2 (by with_reducible assumption) (List.mem_append.mpr (.inl (updF_mem (updF_again (by with_reducible assumption) _)))) | exact ne_of_mem3 (by with_reducible assumption) (updF_mem (updF_again (by with_reducible assumption) _)) | exact ne_of_mem3 (by with_reducible assumption) (List.mem_append.mpr (.inl (updF_mem (updF_again (by with_reducible assumption) _)))) | exact ne_of_mem (by with_reducible assumption) (.tail _ (updF_mem (updF_again (by with_reducible assumption) _))) | exact ne_of_mem (by with_reducible assumption) (.tail _ (List.mem_append.mpr (.inl (updF_mem (updF_again (by with_reducible assumption) _))))) | exact ne_of_mem1 (by with_reducible assumption) (.tail _ (updF_mem (updF_again (by with_reducible assumption) _))) | exact ne_of_mem1 (by with_reducible assumption) (.tail _ (List.mem_append.mpr (.inl (updF_mem (updF_again (by with_reducible assumption) _))))) | exact ne_of_mem2 (by with_reducible assumption) (.tail _ (updF_mem (updF_again (by with_reducible assumption) _))) | exact ne_of_mem2 (by with_reducible assumption) (.tail _ (List.mem_append.mpr (.inl (updF_mem (updF_again (by with_reducible assumption) _))))) | exact ne_of_mem3 (by with_reducible assumption) (.tail _ (updF_mem (updF_again (by with_reducible assumption) _))) | exact ne_of_mem3 (by with_reducible assumption) (.tail _ (List.mem_append.mpr (.inl (updF_mem (updF_again (by with_reducible assumption) _))))) | exact ne_of_mem (by with_reducible assumption) (.tail _ (.tail _ (updF_mem (updF_again (by with_reducible assumption) _)))) | exact ne_of_mem (by with_reducible assumption) (.tail _ (.tail _ (List.mem_append.mpr (.inl (updF_mem (updF_again (by with_reducible assumption) _)))))) | exact ne_of_mem1 (by with_reducible assumption) (.tail _ (.tail _ (updF_mem (updF_again (by with_reducible assumption) _)))) | exact ne_of_mem1 (by with_reducible assumption) (.tail _ (.tail _ (List.mem_append.mpr (.inl (updF_mem (updF_again (by with_reducible assumption) _)))))) | exact ne_of_mem2 (by with_reducible assumption) (.tail _ (.tail _ (updF_mem (updF_again (by with_reducible assumption) _)))) | exact ne_of_mem2 (by with_reducible assumption) (.tail _ (.tail _ (List.mem_append.mpr (.inl (updF_mem (updF_again (by with_reducible assumption) _)))))) | exact ne_of_mem3 (by with_reducible assumption) (.tail _ (.tail _ (updF_mem (updF_again (by with_reducible assumption) _)))) | exact ne_of_mem3 (by with_reducible assumption) (.tail _ (.tail _ (List.mem_append.mpr (.inl (updF_mem (updF_again (by with_reducible assumption) _)))))) | exact ne_of_mem (by with_reducible assumption) (.tail _ (.tail _ (.tail _ (updF_mem (updF_again (by with_reducible assumption) _))))) | exact ne_of_mem (by with_reducible assumption) (.tail _ (.tail _ (.tail _ (List.mem_append.mpr (.inl (updF_mem (updF_again (by with_reducible assumption) _))))))) | exact ne_of_mem1 (by with_reducible assumption) (.tail _ (.tail _ (.tail _ (updF_mem (updF_again (by with_reducible assumption) _))))) | exact ne_of_mem1 (by with_reducible assumption) (.tail _ (.tail _ (.tail _ (List.mem_append.mpr (.inl (updF_mem (updF_again (by with_reducible assumption) _))))))) | exact ne_of_mem2 (by with_reducible assumption) (.tail _ (.tail _ (.tail _ (updF_mem (updF_again (by with_reducible assumption) _))))) | exact ne_of_mem2 (by with_reducible assumption) (.tail _ (.tail _ (.tail _ (List.mem_append.mpr (.inl (updF_mem (updF_again (by with_reducible assumption) _))))))) | exact ne_of_mem3 (by with_reducible assumption) (.tail _ (.tail _ (.tail _ (updF_mem (updF_again (by with_reducible assumption) _))))) | exact ne_of_mem3 (by with_reducible assumption) (.tail _ (.tail _ (.tail _ (List.mem_append.mpr (.inl (updF_mem (updF_again (by with_reducible assumption) _))))))) | exact ne_of_mem (by with_reducible assumption) (.tail _ (.tail _ (.tail _ (.tail _ (updF_mem (updF_again (by with_reducible assumption) _)))))) | exact ne_of_mem (by with_reducible assumption) (.tail _ (.tail _ (.tail _ (.tail _ (List.mem_append.mpr (.inl (updF_mem (updF_again (by with_reducible assumption) _)))))))) | exact ne_of_mem1 (by with_reducible assumption) (.tail _ (.tail _ (.tail _ (.tail _ (updF_mem (updF_again (by with_reducible assumption) _)))))) | exact ne_of_mem1 (by with_reducible assumption) (.tail _ (.tail _ (.tail _ (.tail _ (List.mem_append.mpr (.inl (updF_mem (updF_again (by with_reducible assumption) _)))))))) | exact ne_of_mem2 (by with_reducible assumption) (.tail _ (.tail _ (.tail _ (.tail _ (updF_mem (updF_again (by with_reducible assumption) _)))))) | exact ne_of_mem2 (by with_reducible assumption) (.tail _ (.tail _ (.tail _ (.tail _ (List.mem_append.mpr (.inl (updF_mem (updF_again (by with_reducible assumption) _)))))))) | exact ne_of_mem3 (by with_reducible assumption) (.tail _ (.tail _ (.tail _ (.tail _ (updF_mem (updF_again (by with_reducible assumption) _)))))) | exact ne_of_mem3 (by with_reducible assumption) (.tail _ (.tail _ (.tail _ (.tail _ (List.mem_append.mpr (.inl (updF_mem (updF_again (by with_reducible assumption) _)))))))) | fail "no order"); (case bq35 => k_updF)) | fail "no slot"
  k_with "call ref @" => (k_here; (with_reducible show wpAny _ _ (call (Value.ref 216) [Value.ref _, Value.int _ _]) _ _ _); k_dflt (refine' CtD.use (c_draw _ (by decide) (by decide)) ?k1q36 ?k2q36 ?k3q36 ?k4q36 ?k5q36 ?kKq36 ?kUq36 ?kiq36 ?klq36 ?kdq36 ?kuq36 ?_; (case k1q36 => k_asm); (case k2q36 => k_asm); (case k3q36 => k_asm); (case k4q36 => k_asm); (case k5q36 => k_asm); (case kKq36 => first | exact rfl | assumption); (case kUq36 => k_updF); (case kiq36 => assumption); (case klq36 => assumption); (case kdq36 => ktr_room); (case kuq36 => ktr_units)); intro r9 t9 vs9 ks9 n9 h9 tk9 rA9 rB9 hI9 hL9 F9 N9; (try dsimp only at N9); (try k_sweep))
  k_with "subscriptTail Name Call ref int @" => (k_here; (with_reducible show wpAny _ _ (subscriptTail _ _ (Value.ref _) (Value.int _ _)) _ _ _); k_dflt (refine' item_lit ?Nq37 ?mq37 ?iq37 ?aq37 ?bq37 ?zq37 ?Mq37 ?_ ?sq37; (case Nq37 => k_asm); (case mq37 => k_mem); (case iq37 => repeat (first | exact StrsAre.nil | apply StrsAre.cons)); (case aq37 => assumption); (case bq37 => (simp only [List.length_cons, List.length_nil]; omega)); (case zq37 => decide); (case Mq37 => decide +kernel); (case sq37 => with_unfolding_all rfl)); intro x9 t9 hx9 hy9)
  k_with "subscriptTail List cons Call ref int @" => (k_here; (with_reducible show wpAny _ _ (subscriptTail _ _ (Value.ref _) (Value.int _ _)) _ _ _); k_dflt (refine' item_lit ?Nq38 ?mq38 ?iq38 ?aq38 ?bq38 ?zq38 ?Mq38 ?_ ?sq38; (case Nq38 => k_asm); (case mq38 => k_mem); (case iq38 => repeat (first | exact StrsAre.nil | apply StrsAre.cons)); (case aq38 => assumption); (case bq38 => (simp only [List.length_cons, List.length_nil]; omega)); (case zq38 => decide); (case Mq38 => decide +kernel); (case sq38 => with_unfolding_all rfl)); intro x9 t9 hx9 hy9)
  intro w mean mg mb news g d vs
  intros
  rename_i hU hi hlen _ _ hret
  obtain rfl := updF_same hU
  refine wpAny_call ?_
  k_dflt cell_enter
  k_with "pyIter ref" => refine stop ?_
  k_steps
  (rename Fr _ _ _ _ => fE); (rename News _ _ _ _ => nE); (rename IsRange _ _ _ _ _ _ _ _ => rgX)
  refine Stop.mk ?_
  with_unfolding_all refine' kst_range (fun c : NS => g (listOf c.vs.toArray c.n)) (fun c => [(Str.ofString "found", .str c.f c.t)]) (fun c => IntsAre c.vs c.ks ∧ c.vs.length ≤ 100) [] (fun pre c => NInv (Lx c.f) ∧ c.f.length ≤ 2 + 10 * pre.length) ⟨_, _, _, _, _⟩ (by rfl) (by first | exact rgX | assumption) (small_one (by omega) (by omega) (by omega) (by omega)) (rangeSize_nat _ _) fE (fun p hp => nE p (.tail _ hp)) ⟨by assumption, by assumption⟩ ?kk ⟨(start_ok _ (by assumption)).1, (start_ok _ (by assumption)).2⟩ ?turn ?done
  (case kk => kst_all)
  · clear nE fE; intro c pre k t u h tk own hk hlt hoff hf hP fE nE; have kMk : KstMark := kstMark
    obtain ⟨vsC, ksC, nC, fC, tC⟩ := c
    obtain ⟨hfa, hfb⟩ := hf
    obtain ⟨hP1, hP2⟩ := hP
    replace hoff := offAll_of hU hoff
    dsimp only [kstB] at fE nE hfa hfb hP1 hP2
    have hL : fC.length ≤ 60 := by omega
    try k_fold
    k_steps
    (rename Fr _ _ _ _ => fX); (rename News _ _ _ _ => nX)
    with_unfolding_all refine' kst_end (⟨_, _, _, _, _⟩ : NS) fX nX (fun p hp => .tail _ (.tail _ (List.mem_append.mpr (.inl hp)))) (fun p hp => .tail _ (.tail _ (List.mem_append.mpr (.inr hp)))) (updF_fst hU _ _) ⟨?hi1, ?hi2⟩ ?hk ?hr ⟨?h1, ?h2⟩
    case hk => kst_all
    case hr => kst_same
    case hi1 => assumption
    case hi2 => assumption
    case h1 => exact name_step hP1 (by assumption) (by assumption)
    case h2 =>
      rw [List.length_append, List.length_singleton]
      exact Nat.le_trans (name_len hP2 (by assumption) (by assumption)) (by omega)
  · clear nE fE; intro c u h tk hf hP fE nE; have kMk : KstMark := kstMark
    obtain ⟨vsC, ksC, nC, fC, tC⟩ := c
    obtain ⟨hfa, hfb⟩ := hf
    obtain ⟨hP1, hP2⟩ := hP
    dsimp only [kstB] at fE nE hfa hfb hP1 hP2
    rw [rangeKs_length] at hP2
    have hL : fC.length ≤ 60 := by omega
    try k_fold
    k_steps
    · (rename Fr _ _ _ _ => fX); (rename News _ _ _ _ => nX)
      exact hret _ _ _ _ _ _ _ (name_cut hP1 hL (by assumption)) (by assumption) (by assumption) fX nX
    · (rename Fr _ _ _ _ => fX); (rename News _ _ _ _ => nX)
      exact hret _ _ _ _ _ _ _ ⟨hP1.1, hL⟩ (by assumption) (by assumption) fX nX
    · (rename Fr _ _ _ _ => fX); (rename News _ _ _ _ => nX)
      exact hret _ _ _ _ _ _ _ ⟨hP1.1, hL⟩ (by assumption) (by assumption) fX nX

theorem CtN.use (C : CtN) {w : World} {mean : ExcName → Option Value} {mg mb : Str → Option Value} {news : List (Addr × Obj)} {g : Obj → List (Addr × Obj)} {d : Addr} {vs : List Value} {ks : List Int} {n : Nat} {dp un : Nat} {gd : Option (List Code)} {cn : Str} {cs : Scope} {a : Addr} {ccd : Value} {cl : List (Str × Addr)} {outer : List Env} {A₀ : Around} {base h₀ : Heap} {L : Addr} {m : Str → Option Value} {s : Shared} {Q E : Value → Shared → Prop}
    (B : Below A₀ base outer h₀) (F : Fr h₀ L s.heap m) (X : (hd.heap_1 w.params).In h₀) (N : News h₀ L s.heap news) (T : Top hd.view_1 (looseW hd.view_1 []) mean mg mb h₀) (hk : cs.kind = .function) (U : UpdF d (listOf vs.toArray n) news g) (hi : IntsAre vs ks) (hl : vs.length ≤ 100)
    (hd : dp + 2 < recursionLimit) (hu : un + 200 < cLine) (hret : ∀ (x : Str) (t : Tok) (vs' : List Value) (ks' : List Int) (n' : Nat) (h' : Heap) (tk' : Nat), NameOk x → IntsAre vs' ks' → vs'.length ≤ 100 → Fr h₀ L h' m → News h₀ L h' (g (listOf vs'.toArray n')) → Q (.str x t) { s with heap := h', toks := tk' }) :
    wpAny (model PySem.Challenge.rw_np0038_01.row.prog w) (ktrTop dp un gd cn cs L a ccd cl outer) (call (.ref 223) [.ref d]) Q E s :=
  C w mean mg mb news g d vs ks n dp un gd cn cs a ccd cl outer A₀ base h₀ L m s Q E B F X N T hk U hi hl hd hu hret
end Mine
end
section
open PySem PySem.W PyProof.Rows PySem.Calls PyProof.V PySem.Spec PySem.SeqAt
namespace Mine
section
variable {prog : Program} {w : World} {A : Around} {E : Value → Shared → Prop} {s : Shared} {h₀ : Heap} {L D d : Addr} {m : Str → Option Value} {news news' : List (Addr × Obj)} {n n' : Nat} {Q : Value → Shared → Prop}
theorem ne_nilS {vs : List Value} {ks : List Str} (N : News h₀ L s.heap news) (hm : (d, listOf vs.toArray n) ∈ news) (hm' : (D, listOf ([] : List Value).toArray n') ∈ news) (hi : StrsAre vs ks) (hu : A.units + 64 < cLine)
    (h : Q (.bool (!decide (ks = []))) s) : wpAny (model prog w) A (compareOp .NotEq (.ref d) (.ref D)) Q E s := by
  cases hi with
  | nil => exact (RcNeAt.lists (News.isList N hm) (News.isList N hm') rfl (by omega) (e := fun _ => true) (fun j h1 => absurd h1 (Nat.not_lt_zero j))) _ _ _ _ h
  | cons k t r => exact (RcNeAt.lists_lengths (News.isList N hm) (News.isList N hm') (by simp) (by omega)) _ _ _ _ (by simpa using h)
theorem dropLast_strs : ∀ {us : List Value} {l : List Str}, StrsAre us l → 0 < us.length → ∃ y, us = us.dropLast ++ [y] ∧ StrsAre us.dropLast l.dropLast
  | _, _, .nil, h => absurd h (Nat.lt_irrefl 0)
  | _, _, .cons k t .nil, _ => ⟨.str k t, rfl, .nil⟩
  | _, _, .cons k t (.cons k' t' r'), _ => by
    obtain ⟨y, h1, h3⟩ := dropLast_strs (.cons k' t' r') (Nat.succ_pos _)
    exact ⟨y, congrArg (List.cons (Value.str k t)) h1, .cons k t h3⟩
theorem pop_S {us : List Value} {l : List Str} (F : Fr h₀ L s.heap m) (N : News h₀ L s.heap news) (U : Upd D (listOf us.toArray n) (listOf us.dropLast.toArray (n + 1)) news news') (hi : StrsAre us l) (hne : ¬ l = [])
    (hz : us.length ≤ 100000) (h : ∀ y h', Fr h₀ L h' m → News h₀ L h' news' → StrsAre us.dropLast l.dropLast → Q y { s with heap := h' }) : wpAny (model prog w) A (call (.builtin "list.pop") [.ref D]) Q E s := by
  have hpos : 0 < us.length := by
    rw [StrsAre.length hi]
    exact List.length_pos_iff.mpr hne
  obtain ⟨y, h1, h3⟩ := dropLast_strs hi hpos
  refine kl_pop F N (p := us.dropLast) (y := y) ?_ U (by rw [sizeLine_eq]; show us.length ≤ _; omega) fun h' F' N' => h y h' F' N' h3
  have e := kpa_last y us.dropLast
  rw [← h1] at e
  exact e
end
/-- the law's own stack -/
noncomputable def lawWhole (n d h : List Nat) : List Nat := if n.take 1 ≠ [47] then (if n = [126] ∨ n.take 2 = [126, 47] then h ++ n.drop 1 else d ++ 47 :: n) else n
theorem lawWhole_len (n d h : List Nat) : (lawWhole n d h).length ≤ n.length + d.length + h.length + 1 := by
  unfold lawWhole
  split
  · split
    · rw [List.length_append, List.length_drop]; omega
    · rw [List.length_append, List.length_cons]; omega
  · omega
theorem lsteps_pop {x z : Str} {i : Nat} {ws : List Value} (hz : ((cut 47 (Lx x)).map S)[i]? = some z) (h1 : (z == Str.ofString "..") = true) (h : StrsAre ws ((stepsL ((cut 47 (Lx x)).take i)).map S).dropLast) :
    StrsAre ws ((stepsL ((cut 47 (Lx x)).take (i + 1))).map S) := steps_dd hz h1 h
theorem lsteps_pop0 {x z : Str} {i : Nat} {ws : List Value} (hz : ((cut 47 (Lx x)).map S)[i]? = some z) (h1 : (z == Str.ofString "..") = true) (h0 : (stepsL ((cut 47 (Lx x)).take i)).map S = []) (h : StrsAre ws ((stepsL ((cut 47 (Lx x)).take i)).map S)) :
    StrsAre ws ((stepsL ((cut 47 (Lx x)).take (i + 1))).map S) := by
  refine steps_dd hz h1 ?_
  rw [h0] at h ⊢
  exact h
end Mine
namespace Mine
theorem lw_1 {x y z : Str} (h : (Txt.slice x none (some 1) != Str.ofString "/") = true) (h2 : (x == Str.ofString "~") = true ∨ (Txt.slice x none (some 2) == Str.ofString "~/") = true) : z ++ Txt.slice x (some 1) none = S (lawWhole (Lx x) (Lx y) (Lx z)) := by
  have h3 : Lx x = [126] ∨ (Lx x).take 2 = [126, 47] := by
    have home_lit : Str.ofString "~/" = S [126, 47] := by decide +kernel
    rcases h2 with h | h
    · rw [tilde_lit, beq_S, decide_eq_true_eq] at h; exact .inl h
    · rw [home_lit, beq_S, slice_upto x (by decide), L_S, decide_eq_true_eq] at h; exact .inr h
  rw [slash_lit, bne_S, slice_upto x (by decide), L_S, decide_eq_true_eq] at h
  rw [lawWhole, if_pos (show (Lx x).take 1 ≠ [47] from h), if_pos h3, slice_from x (by decide), app_S, L_S]
  rfl
theorem lw_2 {x y z : Str} (h : (Txt.slice x none (some 1) != Str.ofString "/") = true) (h2 : (x == Str.ofString "~") = false) (h3 : (Txt.slice x none (some 2) == Str.ofString "~/") = false) : y ++ Str.ofString "/" ++ x = S (lawWhole (Lx x) (Lx y) (Lx z)) := by
  have home_lit : Str.ofString "~/" = S [126, 47] := by decide +kernel
  rw [tilde_lit, beq_S, decide_eq_false_iff_not] at h2
  rw [home_lit, beq_S, slice_upto x (by decide), L_S, decide_eq_false_iff_not] at h3
  rw [slash_lit, bne_S, slice_upto x (by decide), L_S, decide_eq_true_eq] at h
  rw [lawWhole, if_pos (show (Lx x).take 1 ≠ [47] from h), if_neg (fun e => e.elim h2 h3), app_S, app_S, L_S, slash_lit, L_S]
  congr 1
  simp
theorem lw_3 {x y z : Str} (h : (Txt.slice x none (some 1) != Str.ofString "/") = false) : x = S (lawWhole (Lx x) (Lx y) (Lx z)) := by
  rw [slash_lit, bne_S, slice_upto x (by decide), L_S, decide_eq_false_iff_not] at h
  rw [lawWhole, if_neg (show ¬ (Lx x).take 1 ≠ [47] from h), S_L]
end Mine
namespace Mine
theorem any_dd {z : Str} (h1 : (z == Str.ofString "..") = true) (h2 : ([Str.ofString "", Str.ofString ".", Str.ofString ".."].any fun x => x == z) = false) : False := by
  have : z = Str.ofString ".." := by simpa using h1
  subst this
  simp at h2
theorem any_no {z : Str} (h1 : (z == Str.ofString "..") = false) (h2 : ([Str.ofString "", Str.ofString ".", Str.ofString ".."].any fun x => x == z) = true) : (z != Str.ofString "") = false ∨ (z != Str.ofString ".") = false := by
  simp only [List.any_cons, List.any_nil, Bool.or_false, Bool.or_eq_true, beq_iff_eq] at h2
  rcases h2 with h | h | h
  · left; rw [← h]; simp
  · right; rw [← h]; simp
  · rw [← h] at h1; simp at h1
theorem any_yes {z : Str} (h2 : ([Str.ofString "", Str.ofString ".", Str.ofString ".."].any fun x => x == z) = false) : (z != Str.ofString "") = true ∧ (z != Str.ofString ".") = true := by
  simp only [List.any_cons, List.any_nil, Bool.or_false, Bool.or_eq_false_iff, beq_eq_false_iff_ne, ne_eq] at h2
  constructor
  · rw [bne_iff_ne]; exact fun e => h2.1 e.symm
  · rw [bne_iff_ne]; exact fun e => h2.2.1 e.symm
end Mine
end
section
open PySem PySem.W PyProof.Rows PySem.Calls PyProof.V PySem.Spec
namespace Mine
abbrev tupOf (vs : List Value) (n : Nat) : Obj := { cls := .type "tuple", data := .seq vs.toArray n }
section
variable {prog : Program} {w : World} {A : Around} {E : Value → Shared → Prop} {s : Shared} {env : Env} {h₀ : Heap} {x : Str} {body : List Stmt} {Q : Flow → Shared → Prop}
/-- a for over a made tuple of texts: any state, any addresses -/
theorem iter_tupS {σ : Type} {l : Addr} {vs : List Value} {xs : List Str} {nn : Nat} {m₀ : Str → Option Value} (Led : σ → List (Addr × Obj)) (ps : σ → List (Str × Value)) (stored : List Str) (P : Nat → σ → Prop) (c₀ : σ)
    (hh : A.handled = none) (hl : ∀ c, (l, tupOf vs nn) ∈ Led c) (hi : StrsAre vs xs) (F : Fr h₀ env.locals s.heap m₀) (N : News h₀ env.locals s.heap (Led c₀)) (hk : ∀ p ∈ ps c₀, m₀ p.1 = some p.2) (hp : P 0 c₀)
    (turn : ∀ i z t (c : σ) (u : Str → Option Value) h tk own, xs[i]? = some z → OwnOff own ((Led c).map (·.1)) → P i c →
      Fr h₀ env.locals h (fun y => if y = x then some (.str z t) else kstB (fun z => if stored.contains z then u z else m₀ z) (ps c) y) → News h₀ env.locals h (Led c ++ own) →
      wpAny (model prog w) A (execs body env) (InvPostG h₀ env.locals (LpS Led ps x stored m₀ P (i + 1)) own { s with heap := h, toks := tk } Q) E { s with heap := h, toks := tk })
    (done : ∀ (c : σ) (u : Str → Option Value) h tk, P xs.length c → Fr h₀ env.locals h (fun y => if y = x then u y else kstB (fun z => if stored.contains z then u z else m₀ z) (ps c) y) → News h₀ env.locals h (Led c) → Q .next { s with heap := h, toks := tk }) :
    wpAny (model prog w) A (pyIter (.ref l)) (fun it s₂ => LoopAtV prog w A h₀ env x body Q E it s₂) E s := by
  have hl0 := hl c₀
  have hol : s.heap.get? l = some (tupOf vs nn) := (N _ hl0).1
  have hls : s.heap.IsTuple l vs.toArray := ⟨_, hol, rfl, nn, rfl⟩
  have hne : l ≠ s.heap.objs.size := Nat.ne_of_lt (Heap.lt_size hol)
  refine wpAny_pyIter_tuple hls ?_
  have W := Walks.tuple (prog := prog) (w := w) hh s.heap.objs.size l hne vs.toArray
  have hlen : vs.toArray.size = xs.length := by simp [hi.length]
  rw [hlen] at W
  refine ⟨_, _, _, xs.length, _, _, m₀, Led c₀, LpS Led ps x stored m₀ P, rfl, W, ?_, ?_, ?_, ⟨⟨_, Heap.get?_push_size _ rfl, rfl, rfl⟩, hls.at fun o e => Heap.get?_push_of_some _ e⟩, F.push _, (fun p hp => ⟨Heap.get?_push_of_some _ (N p hp).1, (N p hp).2⟩), ⟨c₀, rfl, hk, fun _ _ _ _ => rfl, hp⟩, ?_, ?_⟩
  · intro hm
    rcases List.mem_cons.mp hm with e | hm
    · exact absurd F.ns.lt (e ▸ Nat.lt_irrefl _)
    · exact (N _ hl0).2.1 ((List.mem_singleton.mp hm).symm)
  · intro b hb
    rw [List.mem_singleton.mp hb]
    exact next_is_new F
  · intro p hp hI
    exact absurd (Heap.lt_size (N p hp).1) ((List.mem_singleton.mp hI) ▸ Nat.lt_irrefl _)
  · rintro i v m₁ news₁ s₁ own ⟨hh', tk', rfl⟩ hin hP ⟨c, rfl, h1, h2, hJ⟩ hoff hown hget hfp hst F₁ N₁
    have hI0 : h₀.get? s.heap.objs.size = none := next_is_new F
    obtain ⟨⟨oI, hoI, _⟩, _⟩ := id hst
    have hIown : (s.heap.objs.size, oI) ∈ own := hfp _ (List.mem_cons.mpr (.inl rfl)) hI0 _ hoI
    have hsep : OwnOff (own.filter fun p => decide (p.1 = s.heap.objs.size)) ((Led c).map (·.1)) := by
      intro p hp b hb e
      obtain ⟨q, hq, rfl⟩ := List.mem_map.mp hb
      have h3 : p.1 = s.heap.objs.size := by simpa using (List.mem_filter.mp hp).2
      exact hoff q hq (List.mem_singleton.mpr (by rw [← e, h3]))
    have hlt' : i < xs.length := hin
    obtain ⟨t, hx⟩ := StrsAre.get hi i xs[i] (by simp [hlt'])
    have hv : v = .str xs[i] t := by
      have hP' : vs[i]? = some v := by simpa using hP
      rw [hx] at hP'; exact (Option.some.inj hP').symm
    subst hv
    have N₂ : News h₀ env.locals hh' (Led c ++ own.filter fun p => decide (p.1 = s.heap.objs.size)) := fun p hp => N₁ p ((List.mem_append.mp hp).elim (fun h => List.mem_append.mpr (.inr h)) fun h => List.mem_append.mpr (.inl ((List.mem_filter.mp h).1)))
    have hlo : hh'.get? l = some (tupOf vs nn) := (N₁ _ (List.mem_append.mpr (.inr (hl c)))).1
    refine wpAny_mono (turn i xs[i] t c m₁ hh' tk' _ (by simp [hlt']) hsep hJ (kst_fr h1 h2 F₁) N₂) (fun f s₂ p => ?_) fun _ _ e => e
    have fin : InvEndG h₀ env.locals (LpS Led ps x stored m₀ P (i + 1)) (own.filter fun p => decide (p.1 = s.heap.objs.size)) { s with heap := hh', toks := tk' } s₂ →
        LoopStepU h₀ env.locals [s.heap.objs.size] own (LpS Led ps x stored m₀ P (i + 1)) { s with heap := hh', toks := tk' } .next s₂ := by
      rintro ⟨h', tk, m', news', nx, e, F', N', hn, ho, ha, hm⟩
      have hm' := hm
      obtain ⟨c', rfl, _, _, _⟩ := hm'
      refine ⟨rfl, h', tk, m', Led c', e, F', fun p hp => ?_, fun p hp hq => ?_, hm⟩
      · rcases List.mem_append.mp hp with h | h
        · by_cases hI : p.1 = s.heap.objs.size
          · exact N' p (ho p (List.mem_filter.mpr ⟨h, by simpa using hI⟩))
          · have e1 : p.1 = l := by
              rcases List.mem_cons.mp (hown p h) with e2 | e2
              · exact absurd e2 hI
              · exact List.mem_singleton.mp e2
            have e2 : hh'.get? p.1 = some p.2 := hget p h
            rw [e1, hlo] at e2
            have e3 : p = (l, tupOf vs nn) := Prod.ext e1 (Option.some.inj e2).symm
            rw [e3]
            exact N' _ (hn _ (hl c'))
        · exact N' p (hn p h)
      · exact ha _ (List.mem_filter.mpr ⟨hIown, by simp⟩) p.1 (List.mem_map.mpr ⟨p, hp, rfl⟩) (List.mem_singleton.mp hq).symm
    cases f with
    | ret v => exact .ret p
    | brk => exact .brk p
    | next => exact .next (fin p)
    | cont => exact .cont (fin p)
  · rintro h' tk m' news' F' N' _ ⟨c, rfl, h1, h2, hJ⟩
    exact done c m' h' tk hJ (kst_frOut h1 h2 F') N'
end
end Mine
namespace Mine
open PySem.Calls PyProof.V PySem.Spec in
theorem iter_tupC {prog : Program} {w : World} {A : Around} {E : Value → Shared → Prop} {s : Shared} {env : Env} {h₀ : Heap} {x : Str} {body : List Stmt} {Q : Flow → Shared → Prop}
    {σ : Type} {l : Addr} {vs : List Value} {xs : List Str} {nn : Nat} {m₀ : Str → Option Value} {pre rest : List (Addr × Obj)} (ps : σ → List (Str × Value)) (stored : List Str) (P : Nat → σ → Prop) (c₀ : σ)
    (hh : A.handled = none) (F : Fr h₀ env.locals s.heap m₀) (N : News h₀ env.locals s.heap (pre ++ (l, tupOf vs nn) :: rest)) (hi : StrsAre vs xs) (hk : ∀ p ∈ ps c₀, m₀ p.1 = some p.2) (hp : P 0 c₀)
    (turn : ∀ i z t (c : σ) (u : Str → Option Value) h tk own, xs[i]? = some z → OwnOff own ((l, tupOf vs nn) :: rest |>.map (·.1)) → P i c →
      Fr h₀ env.locals h (fun y => if y = x then some (.str z t) else kstB (fun z => if stored.contains z then u z else m₀ z) (ps c) y) → News h₀ env.locals h ((l, tupOf vs nn) :: rest ++ own) →
      wpAny (model prog w) A (execs body env) (InvPostG h₀ env.locals (LpS (fun _ : σ => (l, tupOf vs nn) :: rest) ps x stored m₀ P (i + 1)) own { s with heap := h, toks := tk } Q) E { s with heap := h, toks := tk })
    (done : ∀ (c : σ) (u : Str → Option Value) h tk, P xs.length c → Fr h₀ env.locals h (fun y => if y = x then u y else kstB (fun z => if stored.contains z then u z else m₀ z) (ps c) y) → News h₀ env.locals h ((l, tupOf vs nn) :: rest) → Q .next { s with heap := h, toks := tk }) :
    wpAny (model prog w) A (pyIter (.ref l)) (fun it s₂ => LoopAtV prog w A h₀ env x body Q E it s₂) E s :=
  iter_tupS (fun _ : σ => (l, tupOf vs nn) :: rest) ps stored P c₀ hh (fun _ => List.mem_cons_self) hi F (fun p hp => N p (List.mem_append.mpr (.inr hp))) hk hp turn done
end Mine
end
section
open PySem PySem.W PyProof.Rows
set_option maxRecDepth 100000
set_option maxHeartbeats 8000000
namespace Mine
structure LT where
  its : List Value
  n : Nat
noncomputable def lstepsP (x : Str) (i : Nat) (c : LT) : Prop := StrsAre c.its ((stepsL ((cut 47 (Lx x)).take i)).map S)
theorem c_law_steps (x y z : Str) (t u v : Tok) : CtL 230 10 (x.length ≤ 1000 ∧ y.length ≤ 1000 ∧ z.length ≤ 1000) [.str x t, .str y u, .str z v] ((stepsL (cut 47 (lawWhole (Lx x) (Lx y) (Lx z)))).map S) := by
  unfold CtL
  k_fill
  w_top off
  k_with_none
  k_with "ite @" => first | with_reducible refine ite_tt ?_ | with_reducible refine ite_ff ?_
  k_with "call builtin:str.split @" => (k_here; (with_reducible show wpAny _ _ (call (Value.builtin "str.split") [_, _]) _ _ _); k_dflt (refine' split_K (c := 47) ?eq40 ?Fq40 ?Nq40 ?zq40 ?_; (case eq40 => decide +kernel); (case Fq40 => k_asm); (case Nq40 => k_asm); (case zq40 => omega)); intro D' vs' h' k' hSA' F' N' l1; (try k_sweep))
  k_with "call builtin:list.append @" => (k_here; (with_reducible show wpAny _ _ (call (Value.builtin _) [Value.ref _, _]) _ _ _); k_dflt (refine' append_S ?k1q41 ?k2q41 ?k3q41 ?zq41 ?_; (case k1q41 => k_asm); (case k2q41 => k_asm); (case k3q41 => k_upd); (case zq41 => k_extra "size")); intro h' F' N'; (try k_sweep))
  k_with "compareOp NotEq ref ref @" => (k_here; (with_reducible show wpAny _ _ (compareOp CmpOp.NotEq (Value.ref _) (Value.ref _)) _ _ _); k_dflt (refine' ne_nilS ?Nq42 ?mq42 ?m'q42 ?iq42 ?uq42 ?_; (case Nq42 => k_asm); (case mq42 => k_mem); (case m'q42 => k_mem); (case iq42 => assumption); (case uq42 => first | units_room | ktr_units)))
  k_with "call builtin:list.pop @" => (k_here; (with_reducible show wpAny _ _ (call (Value.builtin _) [Value.ref _]) _ _ _); k_dflt (refine' pop_S ?Fq43 ?Nq43 ?Uq43 ?iq43 ?lq43 ?zq43 ?_; (case Fq43 => k_asm); (case Nq43 => k_asm); (case Uq43 => k_upd); (case iq43 => assumption); (case lq43 => assumption); (case zq43 => k_extra "size")); (intro y' h' F' N' hS'; (try k_sweep)))
  k_with "exec If @" => (k_here; (with_reducible show wpAny _ _ (exec (Stmt.If _ [Stmt.Assign _ _ _] [] _) _) _ _ _); (rename Fr _ _ _ _ => fE); (rename News _ _ _ _ => nE); k_dflt (refine cut_str (Str.ofString "whole_here") ?Rq44 fE nE ?h1q44 (fun h' tk' tW F' N' => ?_); (case Rq44 => k_extra "R")); (try dsimp only))
  intro w mean mg mb news
  intros
  rename_i hp _ _ hret
  obtain ⟨hp1, hp2, hp3⟩ := hp
  have hq1 : (Str.ofString "/").length = 1 := by decide +kernel
  have hq2 : (S (lawWhole (Lx x) (Lx y) (Lx z))).length ≤ 4000 := by
    have := lawWhole_len (Lx x) (Lx y) (Lx z)
    rw [len_S]
    simp only [len_L] at this
    omega
  refine wpAny_call ?_
  k_dflt cell_enter
  k_with "size" => exact its_size (x := S (lawWhole (Lx x) (Lx y) (Lx z))) (by assumption) (by omega)
  k_with "R" => exact (lawWhole (Lx x) (Lx y) (Lx z))
  k_steps
  · (rename Fr _ _ _ _ => fX); (rename News _ _ _ _ => nX); exact one_local (isS_of (lw_1 (by assumption) (.inl (by assumption)))) fX nX (fun _ => rfl)
  · (rename Fr _ _ _ _ => fX); (rename News _ _ _ _ => nX); exact one_local (isS_of (lw_1 (by assumption) (.inr (by assumption)))) fX nX (fun _ => rfl)
  · (rename Fr _ _ _ _ => fX); (rename News _ _ _ _ => nX); exact one_local (isS_of (lw_2 (by assumption) (by assumption) (by assumption))) fX nX (fun _ => rfl)
  · (rename Fr _ _ _ _ => fX); (rename News _ _ _ _ => nX); exact one_local (isS_of (lw_3 (by assumption))) fX nX (sto_none rfl)
  (rename StrsAre _ _ => hsa); (rename News _ _ _ _ => nE); (rename Fr _ _ _ _ => fE); (rename AllLt _ (_ :: news) => hlt); (obtain ⟨D, hDD⟩ : ∃ D, D = D' := ⟨_, rfl⟩); subst hDD
  have hlN := allLt_of (by assumption : ∀ p ∈ news, p.1 < _)
  with_unfolding_all refine' iter_strs (nn := 0) ((fun (o9 : Obj) (l9 : Addr) (c : LT) => (D, o9) :: (l9, listOf c.its.toArray c.n) :: news) _ _) (fun c => []) [] (lstepsP (S (lawWhole (Lx x) (Lx y) (Lx z)))) ⟨[], 0⟩ ?hh ?hl hsa fE nE ?hk ?hp ?turn ?done
  (case hh => exact rfl)
  (case hl => intro _; exact List.mem_cons_self)
  (case hk => kst_all)
  (case hp => exact .nil)
  · clear nE fE; intro i zz tz c u hh tk own hz hoff hP fE nE; have kMk : KstMark := kstMark
    obtain ⟨its, n⟩ := c
    unfold lstepsP at hP
    dsimp only [kstB] at fE nE hoff hP
    have hDd := neN (Nat.ne_of_gt hlt.1); dsimp only at hDd
    simp only [List.cons_append] at nE
    try k_fold
    k_steps
    · (rename Fr _ _ _ _ => fX); (rename News _ _ _ _ => nX)
      exact lp_end ⟨_, _⟩ fX nX (by kst_in) (by intro p hp; kst_mem) hoff (by kst_all) (by kst_same) (lsteps_pop0 hz (by assumption) (by assumption) hP)
    · exact (any_dd (by assumption) (by assumption)).elim
    · (rename Fr _ _ _ _ => fX); (rename News _ _ _ _ => nX)
      exact lp_end ⟨_, _⟩ fX nX (by kst_in) (by intro p hp; kst_mem) hoff (by kst_all) (by kst_same) (lsteps_pop hz (by assumption) (by assumption))
    · exact (any_dd (by assumption) (by assumption)).elim
    · (rename Fr _ _ _ _ => fX); (rename News _ _ _ _ => nX)
      exact lp_end ⟨_, _⟩ fX nX (by kst_in) (by intro p hp; kst_mem) hoff (by kst_all) (by kst_same) (steps_no hz (by assumption) (any_no (by assumption) (by assumption)) hP)
    · (rename Fr _ _ _ _ => fX); (rename News _ _ _ _ => nX)
      refine lp_end (⟨its ++ [.str zz tz], n + 1⟩ : LT) fX nX (by kst_in) (by intro p hp; kst_mem) hoff (by kst_all) (by kst_same) ?_
      exact steps_add hz (by assumption) (any_yes (by assumption)).1 (any_yes (by assumption)).2 hP
  · clear nE fE; intro c u hh tk hP fE nE; have kMk : KstMark := kstMark
    obtain ⟨its, n⟩ := c
    unfold lstepsP at hP
    dsimp only [kstB] at fE nE hP
    try k_fold
    k_steps
    rw [List.length_map, List.take_length, L_S] at hP
    exact hret _ _ _ _ _ (by assumption) (by intro p hp; exact (by assumption : News _ _ _ (_ :: _ :: _)) p (.tail _ hp)) hlN hP
theorem cf_dummy : True := True.intro
end Mine
end
section
open PySem PySem.W PyProof.Rows PySem.Calls PyProof.V PySem.Spec
namespace Mine
/-- the two values -/
noncomputable def valsD (vx vy : Str) : List (PyData × PyData) := [(.str (Str.ofString "X"), .str vx), (.str (Str.ofString "Y"), .str vy)]
noncomputable def vget (vx vy x : Str) : Option Str := if x = Str.ofString "X" then some vx else if x = Str.ofString "Y" then some vy else none
theorem lk_cons (x k : Str) (v : PyData) (r : List (PyData × PyData)) : PySem.Spec.lookup (.str x) ((.str k, v) :: r) = if x = k then some v else PySem.Spec.lookup (.str x) r := by
  simp only [PySem.Spec.lookup, PySem.Spec.same]
  by_cases h : x = k
  · subst h; simp
  · have h' : ¬ k = x := fun e => h e.symm
    simp [h, h']
theorem vget_look (vx vy x : Str) : PySem.Spec.lookup (.str x) (valsD vx vy) = (vget vx vy x).map PyData.str := by
  unfold vget valsD
  rw [lk_cons, lk_cons]
  by_cases h1 : x = Str.ofString "X"
  · rw [if_pos h1, if_pos h1]; rfl
  · rw [if_neg h1, if_neg h1]
    by_cases h2 : x = Str.ofString "Y"
    · rw [if_pos h2, if_pos h2]; rfl
    · rw [if_neg h2, if_neg h2]; rfl
/-- the dict of the values stands there -/
structure Vals (prog : Program) (w : World) (news : List (Addr × Obj)) (dv : Addr) (vx vy : Str) : Prop where
  mk ::
  ex : ∃ o kvs, (dv, o) ∈ news ∧ (dv == sysModules) = false ∧ o.IsDictOf (strKind prog w) kvs ∧ FlatPairs PyData.str kvs (valsD vx vy)
theorem Vals.sub {prog : Program} {w : World} {news news' : List (Addr × Obj)} {dv : Addr} {vx vy : Str} (V : Vals prog w news dv vx vy) (h : ∀ p ∈ news, p ∈ news') : Vals prog w news' dv vx vy := by
  obtain ⟨⟨o, kvs, h1, h2, h3, h4⟩⟩ := V
  exact ⟨⟨o, kvs, h _ h1, h2, h3, h4⟩⟩
section
variable {prog : Program} {w : World} {A : Around} {E : Value → Shared → Prop} {s : Shared} {h₀ : Heap} {L dv : Addr} {m : Str → Option Value} {news news2 : List (Addr × Obj)} {Q : Value → Shared → Prop} {vx vy : Str}
theorem Vals.tab (V : Vals prog w news2 dv vx vy) (N : News h₀ L s.heap news) (h : ∀ p ∈ news2, p ∈ news) : StrTab prog w s.heap dv (valsD vx vy) := by
  obtain ⟨⟨o, kvs, h1, h2, h3, h4⟩⟩ := V
  exact TabAt.ofNews N (h _ h1) h2 h3 h4
theorem vals_item {value slice : PySem.Expr} {x z : Str} {t : Tok} (V : Vals prog w news2 dv vx vy) (N : News h₀ L s.heap news) (hsub : ∀ p ∈ news2, p ∈ news) (hz : vget vx vy x = some z)
    (h : ∀ t', Q (.str z t') { s with toks := s.toks + 1 })
    (hs : subscripted slice false (.ref dv) (.str x t) = operate [.ref dv, .str x t] (getItem (.ref dv) (.str x t))) (hg : ∀ r, letTemporaryGo value (.ref dv) r = pure ()) :
    wpAny (model prog w) A (subscriptTail value slice (.ref dv) (.str x t)) Q E s := by
  refine item_strTab (V.tab N hsub) (dv := .str z) (by rw [vget_look, hz]; rfl) (fun v hv => ?_) hs hg
  obtain ⟨t', rfl⟩ := Flat.str_inv hv
  exact h t'
theorem vals_notin {x : Str} {t : Tok} (V : Vals prog w news2 dv vx vy) (N : News h₀ L s.heap news) (hsub : ∀ p ∈ news2, p ∈ news) (h : Q (.bool (!(vget vx vy x).isSome)) { s with toks := s.toks + 1 }) :
    wpAny (model prog w) A (compareOp .NotIn (.str x t) (.ref dv)) Q E s := by
  refine notin_strTab (V.tab N hsub) ?_
  rw [vget_look]
  cases e : vget vx vy x <;> rw [e] at h <;> exact h
end
theorem vget_X (vx vy : Str) : vget vx vy (Str.ofString "X") = some vx := by unfold vget; rw [if_pos rfl]
theorem vget_Y (vx vy : Str) : vget vx vy (Str.ofString "Y") = some vy := by
  unfold vget
  rw [if_neg (by decide +kernel), if_pos rfl]
end Mine
namespace Mine
theorem vals_item2 {prog : Program} {w : World} {A : Around} {E : Value → Shared → Prop} {s : Shared} {h₀ : Heap} {L dv : Addr} {news news2 : List (Addr × Obj)} {Q : Value → Shared → Prop} {vx vy : Str} {value slice : PySem.Expr} {x : Str} {t : Tok} (V : Vals prog w news2 dv vx vy) (N : News h₀ L s.heap news) (hsub : ∀ p ∈ news2, p ∈ news) (hv : (vget vx vy x).isSome = true) (h1 : vx.length ≤ 3) (h2 : vy.length ≤ 3)
    (h : ∀ z t', vget vx vy x = some z → z.length ≤ 3 → Q (.str z t') { s with toks := s.toks + 1 })
    (hs : subscripted slice false (.ref dv) (.str x t) = operate [.ref dv, .str x t] (getItem (.ref dv) (.str x t))) (hg : ∀ r, letTemporaryGo value (.ref dv) r = pure ()) :
    wpAny (model prog w) A (subscriptTail value slice (.ref dv) (.str x t)) Q E s := by
  cases e : vget vx vy x with
  | none => rw [e] at hv; cases hv
  | some z =>
    refine vals_item V N hsub e (fun t' => h z t' e ?_) hs hg
    unfold vget at e
    split at e
    · cases e; exact h1
    · split at e
      · cases e; exact h2
      · cases e
end Mine
end
section
open PySem PySem.W PyProof.Rows PySem.Calls
namespace Mine
noncomputable def CtV (f : Addr) (k : Nat) (pre : Prop) (x : Str) (t : Tok) (vx vy : Str) (R : Tok → Value) : Prop :=
  ∀ (w : World) (mean : ExcName → Option Value) (mg mb : Str → Option Value) (news : List (Addr × Obj)) (dv : Addr) (dp un : Nat) (gd : Option (List Code)) (cn : Str) (cs : Scope) (a : Addr) (ccd : Value) (cl : List (Str × Addr)) (outer : List Env) (A₀ : Around) (base h₀ : Heap) (L : Addr) (m : Str → Option Value) (s : Shared) (Q E : Value → Shared → Prop),
    Below A₀ base outer h₀ → Fr h₀ L s.heap m → (hd.heap_1 w.params).In h₀ → News h₀ L s.heap news → Top hd.view_1 (looseW hd.view_1 []) mean mg mb h₀ → cs.kind = .function → Vals PySem.Challenge.rw_np0038_01.row.prog w news dv vx vy → pre →
    dp + k < recursionLimit → un + 8 * k < cLine → CbRet h₀ L m news s Q R →
    wpAny (model PySem.Challenge.rw_np0038_01.row.prog w) (ktrTop dp un gd cn cs L a ccd cl outer) (call (.ref f) [.str x t, .ref dv]) Q E s
theorem CtV.use {f : Addr} {k : Nat} {pre : Prop} {x : Str} {t : Tok} {vx vy : Str} {R : Tok → Value} (C : CtV f k pre x t vx vy R) {w : World} {mean : ExcName → Option Value} {mg mb : Str → Option Value} {news news2 : List (Addr × Obj)} {dv : Addr} {dp un : Nat} {gd : Option (List Code)} {cn : Str} {cs : Scope} {a : Addr} {ccd : Value} {cl : List (Str × Addr)} {outer : List Env} {A₀ : Around} {base h₀ : Heap} {L : Addr} {m : Str → Option Value} {s : Shared} {Q E : Value → Shared → Prop}
    (B : Below A₀ base outer h₀) (F : Fr h₀ L s.heap m) (X : (hd.heap_1 w.params).In h₀) (N : News h₀ L s.heap news) (T : Top hd.view_1 (looseW hd.view_1 []) mean mg mb h₀) (hk : cs.kind = .function) (V : Vals PySem.Challenge.rw_np0038_01.row.prog w news2 dv vx vy) (hsub : ∀ p ∈ news2, p ∈ news) (hp : pre)
    (hd : dp + k < recursionLimit) (hu : un + 8 * k < cLine) (hret : ∀ (t : Tok) (h' : Heap) (tk' : Nat), Fr h₀ L h' m → News h₀ L h' news → Q (R t) { s with heap := h', toks := tk' }) :
    wpAny (model PySem.Challenge.rw_np0038_01.row.prog w) (ktrTop dp un gd cn cs L a ccd cl outer) (call (.ref f) [.str x t, .ref dv]) Q E s :=
  C w mean mg mb news dv dp un gd cn cs a ccd cl outer A₀ base h₀ L m s Q E B F X N T hk (V.sub hsub) hp hd hu hret
end Mine
end
section
open PySem PySem.W PyProof.Rows PySem.Calls
namespace Mine
noncomputable def pick (r acc own : List Nat) : List Nat := if acc = [] ∧ r.take own.length = own then own else acc
noncomputable def owns : List (List Nat) := [[123, 88, 125], [123, 89, 125], [36], [88], [89]]
/-- the word behind a dollar -/
noncomputable def wordOf (r : List Nat) : List Nat := owns.foldl (pick r) []
noncomputable def wordAt (r : List Nat) (i : Nat) : List Nat := (owns.take i).foldl (pick r) []
theorem wordAt_all (r : List Nat) : wordAt r 5 = wordOf r := rfl
theorem wordAt_next {r o : List Nat} {i : Nat} (h : owns[i]? = some o) : wordAt r (i + 1) = pick r (wordAt r i) o := by
  unfold wordAt
  rw [List.take_add_one, h]
  simp
theorem pick_mem {r acc o : List Nat} : pick r acc o = o ∨ pick r acc o = acc := by
  unfold pick
  split
  · exact .inl rfl
  · exact .inr rfl
theorem wordOf_mem (r : List Nat) : wordOf r = [] ∨ wordOf r = [123, 88, 125] ∨ wordOf r = [123, 89, 125] ∨ wordOf r = [36] ∨ wordOf r = [88] ∨ wordOf r = [89] := by
  unfold wordOf owns
  simp only [List.foldl_cons, List.foldl_nil]
  rcases @pick_mem r (pick r (pick r (pick r (pick r [] [123, 88, 125]) [123, 89, 125]) [36]) [88]) [89] with h | h <;> rw [h]
  · simp
  rcases @pick_mem r (pick r (pick r (pick r [] [123, 88, 125]) [123, 89, 125]) [36]) [88] with h | h <;> rw [h]
  · simp
  rcases @pick_mem r (pick r (pick r [] [123, 88, 125]) [123, 89, 125]) [36] with h | h <;> rw [h]
  · simp
  rcases @pick_mem r (pick r [] [123, 88, 125]) [123, 89, 125] with h | h <;> rw [h]
  · simp
  rcases @pick_mem r [] [123, 88, 125] with h | h <;> rw [h] <;> simp
end Mine
namespace Mine
theorem owns_get {zz : Str} {i : Nat} (h : [Str.ofString "{X}", Str.ofString "{Y}", Str.ofString "$", Str.ofString "X", Str.ofString "Y"][i]? = some zz) : owns[i]? = some (Lx zz) ∧ zz.length ≤ 3 := by
  have e : owns = [Str.ofString "{X}", Str.ofString "{Y}", Str.ofString "$", Str.ofString "X", Str.ofString "Y"].map Lx := by decide +kernel
  have h1 : owns[i]? = some (Lx zz) := by rw [e, List.getElem?_map, h]; rfl
  refine ⟨h1, ?_⟩
  have hm := List.mem_of_getElem? h1
  rw [← len_L]
  simp only [owns, List.mem_cons, List.not_mem_nil, or_false] at hm
  rcases hm with e | e | e | e | e <;> rw [e] <;> decide
theorem slice_word (x zz : Str) {a : Int} (h0 : 0 ≤ a) : (Txt.slice x (some (a + 1)) (some (a + 1 + (zz.length : Int))) == zz) = decide (((Lx x).drop (a.toNat + 1)).take (Lx zz).length = Lx zz) := by
  rw [slice_mid x (by omega) (by omega), beq_L, L_S, len_L]
  have e1 : (a + 1 + (zz.length : Int)).toNat - (a + 1).toNat = zz.length := by omega
  have e2 : (a + 1).toNat = a.toNat + 1 := by omega
  rw [e1, e2]
theorem wd_yes {x zz wd : Str} {a : Int} {i : Nat} (h0 : 0 ≤ a) (hz : [Str.ofString "{X}", Str.ofString "{Y}", Str.ofString "$", Str.ofString "X", Str.ofString "Y"][i]? = some zz) (hP : Lx wd = wordAt ((Lx x).drop (a.toNat + 1)) i) (h1 : (wd == Str.ofString "") = true) (h2 : (Txt.slice x (some (a + 1)) (some (a + 1 + (zz.length : Int))) == zz) = true) :
    Lx zz = wordAt ((Lx x).drop (a.toNat + 1)) (i + 1) := by
  rw [slice_word x zz h0, decide_eq_true_eq] at h2
  rw [empty_lit, beq_S, decide_eq_true_eq] at h1
  rw [wordAt_next (owns_get hz).1, ← hP, pick, if_pos ⟨h1, h2⟩]
theorem wd_no {x zz wd : Str} {a : Int} {i : Nat} (h0 : 0 ≤ a) (hz : [Str.ofString "{X}", Str.ofString "{Y}", Str.ofString "$", Str.ofString "X", Str.ofString "Y"][i]? = some zz) (hP : Lx wd = wordAt ((Lx x).drop (a.toNat + 1)) i) (h2 : (Txt.slice x (some (a + 1)) (some (a + 1 + (zz.length : Int))) == zz) = false) :
    Lx wd = wordAt ((Lx x).drop (a.toNat + 1)) (i + 1) := by
  rw [slice_word x zz h0, decide_eq_false_iff_not] at h2
  rw [wordAt_next (owns_get hz).1, ← hP, pick, if_neg fun h => h2 h.2]
theorem wd_not {x zz wd : Str} {a : Int} {i : Nat} (hz : [Str.ofString "{X}", Str.ofString "{Y}", Str.ofString "$", Str.ofString "X", Str.ofString "Y"][i]? = some zz) (hP : Lx wd = wordAt ((Lx x).drop (a.toNat + 1)) i) (h1 : (wd == Str.ofString "") = false) :
    Lx wd = wordAt ((Lx x).drop (a.toNat + 1)) (i + 1) := by
  rw [empty_lit, beq_S, decide_eq_false_iff_not] at h1
  rw [wordAt_next (owns_get hz).1, ← hP, pick, if_neg fun h => h1 h.1]
theorem wd_cases {x wd : Str} {a : Int} (hP : Lx wd = wordAt ((Lx x).drop (a.toNat + 1)) 5) :
    (wd = Str.ofString "" ∧ wordOf ((Lx x).drop (a.toNat + 1)) = []) ∨ (wd = Str.ofString "{X}" ∧ wordOf ((Lx x).drop (a.toNat + 1)) = [123, 88, 125]) ∨ (wd = Str.ofString "{Y}" ∧ wordOf ((Lx x).drop (a.toNat + 1)) = [123, 89, 125]) ∨
    (wd = Str.ofString "$" ∧ wordOf ((Lx x).drop (a.toNat + 1)) = [36]) ∨ (wd = Str.ofString "X" ∧ wordOf ((Lx x).drop (a.toNat + 1)) = [88]) ∨ (wd = Str.ofString "Y" ∧ wordOf ((Lx x).drop (a.toNat + 1)) = [89]) := by
  rw [wordAt_all] at hP
  rcases wordOf_mem ((Lx x).drop (a.toNat + 1)) with h | h | h | h | h | h <;> rw [h] at hP ⊢
  · exact .inl ⟨ext_L (by rw [hP]; decide +kernel), rfl⟩
  · exact .inr (.inl ⟨ext_L (by rw [hP]; decide +kernel), rfl⟩)
  · exact .inr (.inr (.inl ⟨ext_L (by rw [hP]; decide +kernel), rfl⟩))
  · exact .inr (.inr (.inr (.inl ⟨ext_L (by rw [hP]; decide +kernel), rfl⟩)))
  · exact .inr (.inr (.inr (.inr (.inl ⟨ext_L (by rw [hP]; decide +kernel), rfl⟩))))
  · exact .inr (.inr (.inr (.inr (.inr ⟨ext_L (by rw [hP]; decide +kernel), rfl⟩))))
end Mine
namespace Mine
theorem wordOf_fits {r w : List Nat} (h : wordOf r = w) (hn : w ≠ []) : r.take w.length = w := by
  have key : ∀ (os : List (List Nat)) (acc : List Nat), (acc = [] ∨ r.take acc.length = acc) → (os.foldl (pick r) acc = [] ∨ r.take (os.foldl (pick r) acc).length = os.foldl (pick r) acc) := by
    intro os
    induction os with
    | nil => intro acc h; exact h
    | cons o q ih =>
      intro acc h
      rw [List.foldl_cons]
      refine ih _ ?_
      unfold pick
      split
      · rename_i h2; exact .inr h2.2
      · exact h
  rcases key owns [] (.inl rfl) with h2 | h2
  · exact absurd (h ▸ h2) hn
  · have h3 : r.take (wordOf r).length = wordOf r := h2
    rw [h] at h3
    exact h3
noncomputable def bad (b : List Nat) : Bool := Txt.isalnum (S b) || decide (b = [95])
noncomputable def valOf (vx vy w : List Nat) : List Nat := if w = [36] then [36] else if 88 ∈ w then vx else vy
/-- the law's own writing out -/
noncomputable def wri (vx vy : List Nat) : List Nat → Option (List Nat)
  | [] => some []
  | c :: r =>
    if c ≠ 36 then (wri vx vy r).map (c :: ·)
    else if wordOf r = [] ∨ ((wordOf r = [88] ∨ wordOf r = [89]) ∧ bad ((r.drop (wordOf r).length).take 1) = true) then none
    else (wri vx vy (r.drop (wordOf r).length)).map (valOf vx vy (wordOf r) ++ ·)
termination_by l => l.length
decreasing_by
  all_goals simp only [List.length_cons, List.length_drop]
  all_goals omega
noncomputable def wriP (x vx vy f : Str) (a : Int) : Prop := wri (Lx vx) (Lx vy) (Lx x) = (wri (Lx vx) (Lx vy) ((Lx x).drop a.toNat)).map (Lx f ++ ·)
theorem wri_start (x vx vy : Str) : wriP x vx vy (Str.ofString "") 0 := by
  unfold wriP
  have e : Lx (Str.ofString "") = [] := by decide +kernel
  rw [e]
  show _ = Option.map (fun y => y) _
  simp
theorem drop_get {l : List Nat} {n : Nat} (h : n < l.length) : l.drop n = l.getD n 0 :: l.drop (n + 1) := by
  rw [List.drop_eq_getElem_cons h]
  simp [List.getD_eq_getElem?_getD, List.getElem?_eq_getElem h]
theorem dollar_lit : Str.ofString "$" = S [36] := by decide +kernel
theorem wri_plain {x vx vy f : Str} {a : Int} (h0 : 0 ≤ a) (h1 : a < x.length) (hd : (Txt.item x a != Str.ofString "$") = true) (hf : (f.length : Int) ≤ 3 * a) (hP : wriP x vx vy f a) :
    0 ≤ a + 1 ∧ a + 1 ≤ x.length ∧ ((f ++ Txt.item x a).length : Int) ≤ 3 * (a + 1) ∧ wriP x vx vy (f ++ Txt.item x a) (a + 1) := by
  have hl := len_L x
  rw [bne, dollar_lit, item_is x h0 h1, Bool.not_eq_true', decide_eq_false_iff_not] at hd
  have e1 : (a + 1).toNat = a.toNat + 1 := by omega
  refine ⟨by omega, by omega, ?_, ?_⟩
  · rw [app_S, item_S x h0 h1, L_S, len_S, List.length_append, List.length_singleton, len_L]
    omega
  · unfold wriP at *
    rw [hP, drop_get (by omega), wri, if_pos hd, e1, Option.map_map, app_S, item_S x h0 h1, L_S, L_S]
    congr 1
    funext y
    simp
theorem beh_eq (x : Str) {a : Int} {n : Nat} (h0 : 0 ≤ a) : Txt.slice x (some (a + 1 + (n : Int))) (some (a + 2 + (n : Int))) = S ((((Lx x).drop (a.toNat + 1)).drop n).take 1) := by
  rw [slice_mid x (by omega) (by omega), List.drop_drop]
  have e1 : (a + 1 + (n : Int)).toNat = a.toNat + 1 + n := by omega
  have e2 : (a + 2 + (n : Int)).toNat - (a + 1 + (n : Int)).toNat = 1 := by omega
  rw [e2, e1]
theorem under_lit : Str.ofString "_" = S [95] := by decide +kernel
theorem wri_word {x vx vy f z : Str} {a : Int} {w : List Nat} {n : Nat} (hW : wordOf ((Lx x).drop (a.toNat + 1)) = w) (h0 : 0 ≤ a) (h1 : a < x.length) (hd : (Txt.item x a != Str.ofString "$") = false) (hf : (f.length : Int) ≤ 3 * a) (hw : w ≠ []) (hn : w.length = n)
    (hb : (w = [88] ∨ w = [89]) → Txt.isalnum (Txt.slice x (some (a + 1 + (n : Int))) (some (a + 2 + (n : Int)))) = false ∧ (Txt.slice x (some (a + 1 + (n : Int))) (some (a + 2 + (n : Int))) == Str.ofString "_") = false)
    (hv : valOf (Lx vx) (Lx vy) w = Lx z) (hz : z.length ≤ 3) (hP : wriP x vx vy f a) :
    0 ≤ a + 1 + (n : Int) ∧ a + 1 + (n : Int) ≤ x.length ∧ ((f ++ z).length : Int) ≤ 3 * (a + 1 + (n : Int)) ∧ wriP x vx vy (f ++ z) (a + 1 + (n : Int)) := by
  have hl := len_L x
  rw [bne, dollar_lit, item_is x h0 h1, Bool.not_eq_false', decide_eq_true_eq] at hd
  have hfit := congrArg List.length (wordOf_fits hW hw)
  rw [List.length_take, List.length_drop] at hfit
  have hwl : 0 < w.length := List.length_pos_iff.mpr hw
  have e1 : (a + 1 + (n : Int)).toNat = a.toNat + 1 + n := by omega
  refine ⟨by omega, by omega, ?_, ?_⟩
  · rw [app_S, len_S, List.length_append, len_L, len_L]
    clear hfit hl e1 hd hP hv hb hW h1 hw
    omega
  · unfold wriP at *
    rw [hP, drop_get (by omega), hd, wri, if_neg (by simp), hW, if_neg ?_, e1, Option.map_map, hn, List.drop_drop, app_S, L_S, hv]
    · congr 1
      funext y
      simp
    · intro h
      rcases h with h | ⟨h, hb'⟩
      · exact hw h
      · obtain ⟨b1, b2⟩ := hb h
        rw [beh_eq x h0] at b1 b2
        rw [under_lit, beq_S, L_S, decide_eq_false_iff_not] at b2
        rw [hn, bad, b1, Bool.false_or, decide_eq_true_eq] at hb'
        exact b2 hb'
theorem wri_none {x vx vy f : Str} {a : Int} {w : List Nat} {n : Nat} (hW : wordOf ((Lx x).drop (a.toNat + 1)) = w) (h0 : 0 ≤ a) (h1 : a < x.length) (hd : (Txt.item x a != Str.ofString "$") = false) (hn : w.length = n) (hP : wriP x vx vy f a)
    (hb : w = [] ∨ ((w = [88] ∨ w = [89]) ∧ (Txt.isalnum (Txt.slice x (some (a + 1 + (n : Int))) (some (a + 2 + (n : Int)))) = true ∨ (Txt.slice x (some (a + 1 + (n : Int))) (some (a + 2 + (n : Int))) == Str.ofString "_") = true))) :
    wri (Lx vx) (Lx vy) (Lx x) = none := by
  have hl := len_L x
  rw [bne, dollar_lit, item_is x h0 h1, Bool.not_eq_false', decide_eq_true_eq] at hd
  unfold wriP at hP
  rw [hP, drop_get (by omega), hd, wri, if_neg (by simp), hW, if_pos]
  · rfl
  · rcases hb with h | ⟨h, h2⟩
    · exact .inl h
    · refine .inr ⟨h, ?_⟩
      rw [beh_eq x h0] at h2
      rw [hn, bad]
      rcases h2 with h2 | h2
      · rw [h2]; rfl
      · rw [under_lit, beq_S, L_S, decide_eq_true_eq] at h2
        rw [h2]
        simp
theorem wri_end {x vx vy f : Str} {a : Int} (h1 : ¬ a < x.length) (h2 : a ≤ x.length) (hP : wriP x vx vy f a) : wri (Lx vx) (Lx vy) (Lx x) = some (Lx f) := by
  have hl := len_L x
  unfold wriP at hP
  rw [hP, List.drop_eq_nil_of_le (by omega), wri]
  simp
noncomputable def wrV (o : Option (List Nat)) (t : Tok) : Value := match o with
  | none => .none
  | some R => .str (S (R.drop (rs R R.length))) t
theorem wrV_none {o : Option (List Nat)} (h : o = none) : ∃ t, Value.none = wrV o t := ⟨0, by rw [h]; rfl⟩
theorem wrV_some {o : Option (List Nat)} {f : Str} {k : Int} {t : Tok} (h : o = some (Lx f)) (h0 : 0 ≤ k) (hk : (rs (Lx f) f.length : Int) = k) : ∃ t', Value.str (Txt.slice f (some k) none) t = wrV o t' := by
  refine ⟨t, ?_⟩
  rw [h, slice_from f h0]
  show _ = Value.str (S ((Lx f).drop (rs (Lx f) (Lx f).length))) t
  rw [len_L]
  congr 3
  omega
theorem wrV_whole {o : Option (List Nat)} {f : Str} {t : Tok} (h : o = some (Lx f)) (hk : rs (Lx f) f.length = 0) : ∃ t', Value.str f t = wrV o t' := by
  refine ⟨t, ?_⟩
  rw [h]
  show _ = Value.str (S ((Lx f).drop (rs (Lx f) (Lx f).length))) t
  rw [len_L, hk, List.drop_zero, S_L]
-- the way back
noncomputable def dnP (f : Str) (pre : List Int) : Prop := rs (Lx f) f.length = rs (Lx f) (f.length - pre.length)
theorem dn_pos {f : Str} {k : Int} {p : List Int} (h : k = (f.length : Int) - 1 - (p.length : Int)) (hlt : p.length < ((f.length : Int) - 1).toNat) : 0 ≤ k - 1 ∧ k - 1 < f.length ∧ 0 ≤ k ∧ k < f.length ∧ (k - 1).toNat = k.toNat - 1 ∧ 1 ≤ k.toNat ∧ f.length - p.length = k.toNat + 1 ∧ f.length - (p ++ [k]).length = k.toNat := by
  rw [List.length_append, List.length_singleton]
  have h9 : p.length + 1 < f.length := by omega
  obtain ⟨m, hm⟩ := Nat.exists_eq_add_of_lt h9
  have e : k = (m : Int) + 1 := by clear hlt h9; omega
  obtain ⟨a1, a2, a3, a4, a5, a6⟩ := near_pos e (Nat.lt_of_le_of_lt (Nat.add_le_add_right (Nat.le_add_left m p.length) 1) (by rw [hm, Nat.add_right_comm]; exact Nat.lt_succ_self _) : m + 1 < f.length)
  refine ⟨a1, a2, a3, a4, a5, a6 ▸ Nat.le_add_left 1 m, ?_, ?_⟩
  · rw [a6, hm, Nat.add_assoc, Nat.add_assoc, Nat.add_sub_cancel_left, Nat.add_comm]
  · rw [a6, hm, Nat.add_assoc, Nat.add_sub_cancel_left]
theorem dn_yes {f : Str} {k : Int} {p : List Int} (h : k = (f.length : Int) - 1 - (p.length : Int)) (hlt : p.length < ((f.length : Int) - 1).toNat) (hP : dnP f p) (h1 : (Txt.item f (k - 1) == Str.ofString "/") = true) (h2 : (Builtin.Str.occurrences (Str.ofString "/~") (Txt.item f k) 0 (Str.ofString "/~").length 1).isEmpty = false) : (rs (Lx f) f.length : Int) = k := by
  obtain ⟨a1, a2, a3, a4, a5, a6, a7, a8⟩ := dn_pos h hlt
  have h3 := occ_t h2
  rw [start_eq f a3 a4, decide_eq_true_eq] at h3
  rw [slash_lit, item_is f a1 a2, decide_eq_true_eq, a5] at h1
  unfold dnP at hP
  rw [hP, a7, rs_yes (by omega) h1 h3]
  omega
theorem dn_no {f : Str} {k : Int} {p : List Int} (h : k = (f.length : Int) - 1 - (p.length : Int)) (hlt : p.length < ((f.length : Int) - 1).toNat) (hP : dnP f p) (h1 : (Txt.item f (k - 1) == Str.ofString "/") = false ∨ (Builtin.Str.occurrences (Str.ofString "/~") (Txt.item f k) 0 (Str.ofString "/~").length 1).isEmpty = true) : dnP f (p ++ [k]) := by
  obtain ⟨a1, a2, a3, a4, a5, a6, a7, a8⟩ := dn_pos h hlt
  unfold dnP at *
  rw [hP, a7, a8]
  rcases h1 with h1 | h1
  · rw [slash_lit, item_is f a1 a2, decide_eq_false_iff_not, a5] at h1
    exact rs_no1 h1
  · have h3 := occ_f h1
    rw [start_eq f a3 a4, decide_eq_false_iff_not] at h3
    exact rs_no2 h3
theorem dn_end {f : Str} {p : List Int} (hp : p.length = ((f.length : Int) - 1).toNat) (hP : dnP f p) : rs (Lx f) f.length = 0 := by
  unfold dnP at hP
  rw [hP, hp]
  by_cases h0 : f.length = 0
  · rw [h0]; rfl
  · have e : f.length - ((f.length : Int) - 1).toNat = 1 := by omega
    rw [e, rs_one]
end Mine
namespace Mine
theorem valOf_dollar (vx vy : List Nat) : valOf vx vy [36] = Lx (Str.ofString "$") := by
  rw [valOf, if_pos rfl]
  decide +kernel
theorem dollar_len : (Str.ofString "$").length ≤ 3 := by decide +kernel
end Mine
end
section
open PySem PySem.W PyProof.Rows
set_option maxRecDepth 100000
set_option maxHeartbeats 8000000
namespace Mine
theorem c_written (x : Str) (t : Tok) (vx vy : Str) : CtV 237 20 (x.length ≤ 100 ∧ vx.length ≤ 3 ∧ vy.length ≤ 3) x t vx vy (fun t => wrV (wri (Lx vx) (Lx vy) (Lx x)) t) := by
  unfold CtV
  k_fill
  w_top off
  k_with_none
  k_with "ite @" => first | with_reducible refine ite_tt ?_ | with_reducible refine ite_ff ?_
  k_with "subscriptTail @" => (k_here; (with_reducible show wpAny _ _ (subscriptTail _ _ (Value.ref _) (Value.str _ _)) _ _ _); k_dflt (refine' vals_item ?Vq46 ?Nq46 ?uq46 ?zq46 ?_ ?sq46 ?gq46; (case Vq46 => assumption); (case Nq46 => k_asm); (case uq46 => first | exact sub10 | exact sub9 | exact sub8 | exact sub7 | exact sub6 | exact sub5 | exact sub4 | exact sub3 | exact sub2 | exact sub1 | exact sub_rfl); (case zq46 => first | exact vget_X _ _ | exact vget_Y _ _ | assumption); (case sq46 => with_unfolding_all rfl); (case gq46 => kmk_pure)); intro t9)
  k_with "compareOp NotIn str ref @" => (k_here; (with_reducible show wpAny _ _ (compareOp CmpOp.NotIn (Value.str _ _) (Value.ref _)) _ _ _); k_dflt (refine' vals_notin ?Vq47 ?Nq47 ?uq47 ?_; (case Vq47 => assumption); (case Nq47 => k_asm); (case uq47 => first | exact sub10 | exact sub9 | exact sub8 | exact sub7 | exact sub6 | exact sub5 | exact sub4 | exact sub3 | exact sub2 | exact sub1 | exact sub_rfl)))
  k_with "exec For Name Tuple cons cons nil @" => (k_here; (rename Fr _ _ _ _ => lF'); (with_unfolding_all refine' For_invVF lF' ?k1q48 ?k2q48 ?_; (case k1q48 => exact rfl); (case k2q48 => exact rfl); k_whole))
  k_with "exec For Name Tuple cons nil @" => (k_here; (rename Fr _ _ _ _ => lF'); (with_unfolding_all refine' For_invVF lF' ?k1q49 ?k2q49 ?_; (case k1q49 => exact rfl); (case k2q49 => exact rfl); k_whole))
  dsimp only [CbRet]
  intro w mean mg mb news dv
  intros
  rename_i hV hp _ _ hret
  obtain ⟨hp1, hp2, hp3⟩ := hp
  refine wpAny_call ?_
  k_dflt cell_enter
  have o1 : (Builtin.Str.occurrences (Str.ofString "{X}") (Str.ofString "X") 0 (Str.ofString "{X}").length 1).isEmpty = false := by decide +kernel
  have o2 : (Builtin.Str.occurrences (Str.ofString "{Y}") (Str.ofString "X") 0 (Str.ofString "{Y}").length 1).isEmpty = true := by decide +kernel
  have o3 : (Builtin.Str.occurrences (Str.ofString "X") (Str.ofString "X") 0 (Str.ofString "X").length 1).isEmpty = false := by decide +kernel
  have o4 : (Builtin.Str.occurrences (Str.ofString "Y") (Str.ofString "X") 0 (Str.ofString "Y").length 1).isEmpty = true := by decide +kernel
  k_with "exec While Compare cons nil" => k_while (fun _ f a => 0 ≤ a ∧ a ≤ x.length ∧ (f.length : Int) ≤ 3 * a ∧ wriP x vx vy f a) (fun _ f a => x.length - a.toNat) "found" "at"
  k_with "state" => first
    | exact ⟨by decide, by omega, by decide +kernel, wri_start x vx vy⟩
    | exact wri_plain (by with_reducible assumption) (by with_reducible assumption) (by with_reducible assumption) (by with_reducible assumption) (by with_reducible assumption)
  k_with "pyIter ref" => refine stop ?_
  k_steps
  · refine Stop.mk ?_
    (rename News _ _ _ _ => nE); (rename Fr _ _ _ _ => fE); (rename _ ∧ AllLt _ _ => hlt); rename_i D _
    (rename Int => a); (rename Str => f)
    with_unfolding_all refine' iter_tupC (σ := Str × Tok) (pre := []) (xs := [Str.ofString "{X}", Str.ofString "{Y}", Str.ofString "$", Str.ofString "X", Str.ofString "Y"]) (fun c => [(Str.ofString "word", .str c.1 c.2)]) [] (fun i c => Lx c.1 = wordAt ((Lx x).drop (a.toNat + 1)) i) ⟨_, _⟩ ?hh fE nE ?hi ?hk ?hp ?turn ?done
    (case hh => exact rfl)
    (case hi => repeat (first | exact StrsAre.nil | apply StrsAre.cons))
    (case hk => kst_all)
    (case hp => show Lx (Str.ofString "") = []; decide +kernel)
    · clear nE fE; intro i zz tz c u hh tk own hz hoff hP fE nE; have kMk : KstMark := kstMark
      obtain ⟨wd, tw⟩ := c
      have hzl := (owns_get hz).2
      dsimp only [kstB] at fE nE hoff hP
      simp only [List.cons_append] at nE
      try k_fold
      k_steps
      · (rename Fr _ _ _ _ => fX); (rename News _ _ _ _ => nX)
        refine lp_end (σ := Str × Tok) ⟨_, _⟩ fX nX (by kst_in) (by intro p hp; kst_mem) hoff (by kst_all) (by kst_same) ?_
        exact wd_yes (by assumption) hz hP (by assumption) (by assumption)
      · (rename Fr _ _ _ _ => fX); (rename News _ _ _ _ => nX)
        refine lp_end (σ := Str × Tok) ⟨_, _⟩ fX nX (by kst_in) (by intro p hp; kst_mem) hoff (by kst_all) (by kst_same) ?_
        exact wd_no (by assumption) hz hP (by assumption)
      · (rename Fr _ _ _ _ => fX); (rename News _ _ _ _ => nX)
        refine lp_end (σ := Str × Tok) ⟨_, _⟩ fX nX (by kst_in) (by intro p hp; kst_mem) hoff (by kst_all) (by kst_same) ?_
        exact wd_not hz hP (by assumption)
    · clear nE fE; intro c u hh tk hP fE nE; have kMk : KstMark := kstMark
      obtain ⟨wd, tw⟩ := c
      dsimp only [kstB] at fE nE hP
      have hl1 : (Str.ofString "").length = 0 := by decide +kernel
      have hl2 : (Str.ofString "{X}").length = 3 := by decide +kernel
      have hl3 : (Str.ofString "{Y}").length = 3 := by decide +kernel
      have hl4 : (Str.ofString "$").length = 1 := by decide +kernel
      have hl5 : (Str.ofString "X").length = 1 := by decide +kernel
      have hl6 : (Str.ofString "Y").length = 1 := by decide +kernel
      rcases wd_cases hP with ⟨rfl, hW⟩ | ⟨rfl, hW⟩ | ⟨rfl, hW⟩ | ⟨rfl, hW⟩ | ⟨rfl, hW⟩ | ⟨rfl, hW⟩ <;> clear hP <;> (try k_fold)
      · k_steps
        (rename Fr _ _ _ _ => fX); (rename News _ _ _ _ => nX); exact ret_of hret (wrV_none (wri_none (n := 0) hW (by with_reducible assumption) (by with_reducible assumption) (by with_reducible assumption) rfl (by with_reducible assumption) (.inl rfl))) fX (fun p hp => nX p (by repeat (first | exact hp | refine List.Mem.tail _ ?_)))
      · k_with "state" => exact wri_word (n := 3) hW (by with_reducible assumption) (by with_reducible assumption) (by with_reducible assumption) (by with_reducible assumption) (by simp) rfl (fun h => absurd h (by decide)) rfl (by with_reducible assumption) (by with_reducible assumption)
        k_steps
      · k_with "state" => exact wri_word (n := 3) hW (by with_reducible assumption) (by with_reducible assumption) (by with_reducible assumption) (by with_reducible assumption) (by simp) rfl (fun h => absurd h (by decide)) rfl (by with_reducible assumption) (by with_reducible assumption)
        k_steps
      · k_with "state" => exact wri_word (n := 1) hW (by with_reducible assumption) (by with_reducible assumption) (by with_reducible assumption) (by with_reducible assumption) (by simp) rfl (fun h => absurd h (by decide)) (valOf_dollar _ _) dollar_len (by with_reducible assumption)
        k_steps
      · k_with "state" => exact wri_word (n := 1) hW (by with_reducible assumption) (by with_reducible assumption) (by with_reducible assumption) (by with_reducible assumption) (by simp) rfl (fun _ => ⟨(by with_reducible assumption), (by with_reducible assumption)⟩) rfl (by with_reducible assumption) (by with_reducible assumption)
        k_steps
        · (rename Fr _ _ _ _ => fX); (rename News _ _ _ _ => nX); exact ret_of hret (wrV_none (wri_none (n := 1) hW (by with_reducible assumption) (by with_reducible assumption) (by with_reducible assumption) rfl (by with_reducible assumption) (.inr ⟨.inl rfl, .inl (by with_reducible assumption)⟩))) fX (fun p hp => nX p (by repeat (first | exact hp | refine List.Mem.tail _ ?_)))
        · (rename Fr _ _ _ _ => fX); (rename News _ _ _ _ => nX); exact ret_of hret (wrV_none (wri_none (n := 1) hW (by with_reducible assumption) (by with_reducible assumption) (by with_reducible assumption) rfl (by with_reducible assumption) (.inr ⟨.inl rfl, .inr (by with_reducible assumption)⟩))) fX (fun p hp => nX p (by repeat (first | exact hp | refine List.Mem.tail _ ?_)))
      · k_with "state" => exact wri_word (n := 1) hW (by with_reducible assumption) (by with_reducible assumption) (by with_reducible assumption) (by with_reducible assumption) (by simp) rfl (fun _ => ⟨(by with_reducible assumption), (by with_reducible assumption)⟩) rfl (by with_reducible assumption) (by with_reducible assumption)
        k_steps
        · (rename Fr _ _ _ _ => fX); (rename News _ _ _ _ => nX); exact ret_of hret (wrV_none (wri_none (n := 1) hW (by with_reducible assumption) (by with_reducible assumption) (by with_reducible assumption) rfl (by with_reducible assumption) (.inr ⟨.inr rfl, .inl (by with_reducible assumption)⟩))) fX (fun p hp => nX p (by repeat (first | exact hp | refine List.Mem.tail _ ?_)))
        · (rename Fr _ _ _ _ => fX); (rename News _ _ _ _ => nX); exact ret_of hret (wrV_none (wri_none (n := 1) hW (by with_reducible assumption) (by with_reducible assumption) (by with_reducible assumption) rfl (by with_reducible assumption) (.inr ⟨.inr rfl, .inr (by with_reducible assumption)⟩))) fX (fun p hp => nX p (by repeat (first | exact hp | refine List.Mem.tail _ ?_)))
  · refine Stop.mk ?_
    (rename News _ _ _ _ => nE); (rename Fr _ _ _ _ => fE); (rename IsRange _ _ _ _ _ _ _ _ => rgX)
    (rename Int => a); (rename Str => f)
    have hend := wri_end (by assumption) (by assumption) (by assumption : wriP x vx vy f a)
    with_unfolding_all refine' kst_rangeD (fun _ : Unit => news) (fun _ => []) (fun _ => True) [] (fun pre _ => dnP f pre) () (by rfl) rgX (small_down (by omega) (by omega) (by omega) (by omega)) (rangeSize_downNat _ _) fE (fun p hp => nE p (by repeat (first | exact hp | refine List.Mem.tail _ ?_))) True.intro ?kk2 rfl ?turn2 ?done2
    (case kk2 => kst_all)
    · clear nE fE; intro c pre k t u h tk own hk hlt hoff hf hP fE nE; have kMk : KstMark := kstMark
      have hlt2 : pre.length < ((f.length : Int) - 1).toNat := by omega
      have hpos := dn_pos hk hlt2
      obtain ⟨q1, q2, q3, q4, _⟩ := hpos
      dsimp only [kstB] at fE nE
      try k_fold
      k_with "state" => first | exact dn_no hk hlt2 hP (.inl (by with_reducible assumption)) | exact dn_no hk hlt2 hP (.inr (by with_reducible assumption))
      k_steps
      · (rename Fr _ _ _ _ => fX); (rename News _ _ _ _ => nX); exact ret_of hret (wrV_some hend q3 (dn_yes hk hlt2 hP (by with_reducible assumption) (by with_reducible assumption))) fX (fun p hp => nX p (by first | exact hp | exact List.mem_append.mpr (.inl hp)))
    · clear nE fE; intro c u h tk hf hP fE nE; have kMk : KstMark := kstMark
      dsimp only [kstB] at fE nE
      try k_fold
      k_steps
      · (rename Fr _ _ _ _ => fX); (rename News _ _ _ _ => nX); exact ret_of hret (wrV_whole hend (dn_end (by rw [downKs_length]; omega) hP)) fX nX
end Mine
end
section
open PySem PySem.W PyProof.Rows PySem.Calls Builtin Builtin.ObjectAttr
set_option maxRecDepth 100000
namespace Mine
section
variable {prog : Program} {w : World} {A : Around} {R : Result → Shared → Prop} {s : Shared} {K : Frag} {h₀ : Heap} {L x C : Addr} {m : Str → Option Value} {pre post : List (Addr × Obj)}
theorem exc_open {ox : Obj} {od : Option Obj} {name : Str} {tk : Tok} {v : Value} {ml : List Value} (X : K.In s.heap) (I : InstAt s.heap x ox C od) (hml : (clsIn K C).map (·.mro) = some ml) (hne : ml.isEmpty = false) (hobj : ml.contains (.type "object") = true)
    (hpass : ∀ self, refuseLoop self "__setattr__" ml = pure ()) (ht : takerIn K C name = some none)
    (h : ∀ b, wpAny (model prog w) A.in1 (storeInOwnDict (.ref x) (.ref C) (.str name tk) name v b)
      (fun fin s' => match fin with | .done f => R (.ok f) s' | .again c' => c'.quiet = true ∧ codeAny (model prog w) A c' R s') (fun e s' => R (.error e) s') s) :
    codeAny (model prog w) A (.call (.builtin "object.__setattr__") ⟨[.ref x, .str name tk, v], []⟩) R s := by
  have SF := PySem.F.store_object
  obtain ⟨cd, hc, rfl⟩ := Option.map_eq_some_iff.mp hml
  have sub : Looks (model prog w) s.heap (isInstance (.ref x) (.type "object")) true := I.type.andThen (looks_mroIn X (by unfold mroIn; rw [hc, Option.bind_some, if_neg (by rw [hne]; decide), hobj]))
  refine codeAny_call_builtin SF.slot.plain SF.entry (@check_slot (model prog w) _ _ s "object.__setattr__" "object" "__setattr__" (.ref x) [.str name tk, v] [] _ SF.kind SF.split sub (SF.args (.ref x) (.str name tk) v) ?_)
  obtain ⟨attr, ha, hr⟩ := Option.bind_eq_some_iff.mp ht
  have hm : Looks (model prog w) s.heap (mroOf (.ref C)) cd.mro := (looks_clsIn X hc).andThen .now
  have L3 : Looks (model prog w) s.heap (storeTaker? attr) none := by
    cases attr with
    | none => exact .now
    | some a =>
      obtain ⟨b, hb, hb2⟩ := Option.map_eq_some_iff.mp hr
      refine (looks_takesIn X hb).andThen ?_
      cases b
      · exact .now
      · cases hb2
  rw [osa_eq, refuse_eq]
  refine wpAny_bind (wpAny_bind (I.type.here (wpAny_bind (hm.here ?_))))
  rw [hpass]
  refine wpAny_pure (wpAny_bind (I.type.here (wpAny_bind ((looks_findIn X ha).here (wpAny_bind (L3.here ?_))))))
  exact h _
abbrev noEntries : Obj := { cls := .type "dict", data := .dict #[] }
theorem exc_first {ox : Obj} {name : Str} {tk : Tok} {v : Value} {ml : List Value} (F : Fr h₀ L s.heap m) (N : News h₀ L s.heap ((x, ox) :: post)) (X : K.In s.heap) (I : InstAt s.heap x ox C none) (hd : ox.dict = none) (hml : (clsIn K C).map (·.mro) = some ml) (hne : ml.isEmpty = false) (hobj : ml.contains (.type "object") = true)
    (hpass : ∀ self, refuseLoop self "__setattr__" ml = pure ()) (ht : takerIn K C name = some none) (hh : (clsIn K C).any (·.hasDict) = true) (hf : ∀ D : Addr, ({ ox with dict := some D } : Obj).isFreed = false) (h2 : ∀ p ∈ post, p.1 ≠ x)
    (h : ∀ D od h', Fr h₀ L h' m → News h₀ L h' ((D, od) :: (x, { ox with dict := some D }) :: post) → D ≠ x → (∀ p ∈ post, p.1 ≠ D) → od.data = .dict #[⟨PyData.keyHash w.params name, .str name s.toks, v⟩] 1 → R (.ok (.ret .none)) { s with heap := h', toks := s.toks + 1 }) :
    codeAny (model prog w) A (.call (.builtin "object.__setattr__") ⟨[.ref x, .str name tk, v], []⟩) R s := by
  refine exc_open X I hml hne hobj hpass ht fun b => ?_
  obtain ⟨cd, hc, hd'⟩ := any_some hh
  obtain ⟨hx, hcl, hn, -⟩ := I
  have hlt := Heap.lt_size hx
  have F1 : Fr h₀ L (s.heap.push noEntries) m := F.push _
  have N1 : News h₀ L (s.heap.push noEntries) ((s.heap.objs.size, noEntries) :: (x, ox) :: post) := news_pushed F N (fun b o e => Heap.get?_push_of_some _ e) (Heap.get?_push_size _ rfl) rfl
  have hDx : s.heap.objs.size ≠ x := Nat.ne_of_gt hlt
  have hDp : ∀ p ∈ post, p.1 ≠ s.heap.objs.size := fun p hp => Nat.ne_of_lt (Heap.lt_size (N p (.tail _ hp)).1)
  have hfr : ({ ox with dict := some s.heap.objs.size } : Obj).isFreed = false := hf _
  obtain ⟨F2, N2⟩ := news_upd (pre := [(s.heap.objs.size, noEntries)]) (post := post) (f := fun o => { o with dict := some s.heap.objs.size }) F1 N1 (fun p hp => by rw [List.mem_singleton.mp hp]; exact hDx) h2 rfl hfr
  obtain ⟨F3, N3⟩ := news_upd (pre := []) (post := (x, { ox with dict := some s.heap.objs.size }) :: post) (f := Obj.putName name (PyData.keyHash w.params name) (.str name s.toks) v) F2 N2 (fun p hp => absurd hp List.not_mem_nil) (fun p hp => by rcases List.mem_cons.mp hp with rfl | hp; exact hDx.symm; exact hDp p hp) rfl rfl
  have D2 := (N2 (s.heap.objs.size, noEntries) (by simp)).1
  have D3 := (N3 (s.heap.objs.size, _) (List.mem_append.mpr (.inr (.head _)))).1
  have hx1 : (s.heap.push noEntries).get? x = some ox := Heap.get?_push_of_some _ hx
  have hdata : (Obj.putName name (PyData.keyHash w.params name) (.str name s.toks) v noEntries).data = .dict #[⟨PyData.keyHash w.params name, .str name s.toks, v⟩] 1 := by
    rw [Obj.putName_eq]
    simp [Obj.putNameByArray]
  obtain ⟨hp, g, d, tkk, os⟩ := s
  obtain ⟨oc, odi, oda, osl⟩ := ox
  dsimp only at hcl hd hx hx1 F1 N1 F2 N2 F3 N3 D2 D3 hDx hDp h hdata
  subst hcl hd
  refine wpAny_bind (wpAny_pure (wpAny_bind (wpAny_bind (wpAny_loadPart hx (wpAny_bind ((looks_clsIn X hc).here ?_))))))
  rw [hd']
  rw [if_neg (by decide)]
  dsimp only
  rw [if_neg (by simp [typeHasDict])]
  have key : wpAny (model prog w) A.in1
      (do
        let d ← alloc { cls := Value.type "dict", data := Data.dict #[] }
        update x fun o => { cls := o.cls, dict := some d, data := o.data, slots := o.slots }
        dictMade (Value.ref C) x d)
      (fun a s' =>
        wpAny (model prog w) A.in1
          (match a with
          | some d => storeInDict d (Value.str name tk) name v
          | none => noDictFor (Value.ref x) (Value.ref C) name b)
          (fun fin s' =>
            match fin with
            | Fin.done f => R (Except.ok f) s'
            | Fin.again c' => c'.quiet = true ∧ codeAny (model prog w) A c' R s')
          (fun e s' => R (Except.error e) s') s')
      (fun e s' => R (Except.error e) s') { heap := hp, gens := g, drawn := d, toks := tkk, os := os } := by
    refine wpAny_bind (wpAny_alloc ?_)
    refine wpAny_bind (wpAny_update hx1 ?_)
    refine wpAny_pure ?_
    refine wpAny_bind (wpAny_pure (wpAny_bind ?_))
    unfold nsSet
    refine wpAny_bind (wpAny_bind (wpAny_askSetting (wpAny_pure (wpAny_bind (wpAny_mkText (wpAny_bind (wpAny_loadPart D2 ?_)))))))
    dsimp only
    have c : (!(#[] : Array DictEntry).any (·.key.isStr name) && (#[] : Array DictEntry).any (·.refKey)) = false := by simp
    rw [aRefKeyMayBeTheName_at, c]
    refine wpAny_updatePart D2 ?_
    refine wpAny_bind (wpAny_lookBehind D3 ?_ ?_)
    · rw [hdata]
      exact pastItsLine_dict (by rw [sizeLine_eq]; simp)
    · exact wpAny_pure (h _ _ _ F3 N3 hDx hDp hdata)
  cases oda <;> first | exact key | (simp [notCls] at hn)
theorem exc_next {ox od : Obj} {D : Addr} {name k1 : Str} {t1 : Tok} {a1 : Int} {v1 : Value} {tk : Tok} {v : Value} {ml : List Value} (F : Fr h₀ L s.heap m) (N : News h₀ L s.heap ((D, od) :: (x, ox) :: post)) (X : K.In s.heap) (I : InstAt s.heap x ox C (some od)) (hd : ox.dict = some D) (hml : (clsIn K C).map (·.mro) = some ml) (hne : ml.isEmpty = false) (hobj : ml.contains (.type "object") = true)
    (hpass : ∀ self, refuseLoop self "__setattr__" ml = pure ()) (ht : takerIn K C name = some none) (hh : (clsIn K C).any (·.hasDict) = true) (hod : od.data = .dict #[⟨a1, .str k1 t1, v1⟩] 1) (hk : (k1 == name) = false) (hDx : D ≠ x) (hDp : ∀ p ∈ post, p.1 ≠ D)
    (h : ∀ od' h', Fr h₀ L h' m → News h₀ L h' ((D, od') :: (x, ox) :: post) → R (.ok (.ret .none)) { s with heap := h', toks := s.toks + 1 }) :
    codeAny (model prog w) A (.call (.builtin "object.__setattr__") ⟨[.ref x, .str name tk, v], []⟩) R s := by
  refine exc_open X I hml hne hobj hpass ht fun b => ?_
  obtain ⟨cd, hc, hd'⟩ := any_some hh
  obtain ⟨hx, hcl, hn, -⟩ := I
  have D2 := (N (D, od) (.head _)).1
  obtain ⟨od2, hod2, hdd⟩ : ∃ od2, Obj.putName name (PyData.keyHash w.params name) (.str name s.toks) v od = od2 ∧ od2.data = .dict #[⟨a1, .str k1 t1, v1⟩, ⟨PyData.keyHash w.params name, .str name s.toks, v⟩] 2 := by
    refine ⟨_, rfl, ?_⟩
    obtain ⟨oc, odi, oda, osl⟩ := od
    dsimp only at hod
    subst hod
    rw [Obj.putName_eq]
    simp [Obj.putNameByArray, Value.isStr, hk]
  obtain ⟨F3, N3⟩ := news_upd (pre := []) (post := (x, ox) :: post) (f := Obj.putName name (PyData.keyHash w.params name) (.str name s.toks) v) F N (fun p hp => absurd hp List.not_mem_nil) (fun p hp => by rcases List.mem_cons.mp hp with rfl | hp; exact hDx.symm; exact hDp p hp) hod2 (by obtain ⟨_, _, dd, _⟩ := od2; cases hdd; rfl)
  have D3 := (N3 (D, od2) (List.mem_append.mpr (.inr (.head _)))).1
  obtain ⟨hp, g, d, tkk, os⟩ := s
  obtain ⟨oc, odi, oda, osl⟩ := ox
  dsimp only at hcl hd hx F3 N3 D2 D3 h
  subst hcl hd
  refine wpAny_bind (wpAny_pure (wpAny_bind (wpAny_bind (wpAny_loadPart hx (wpAny_bind ((looks_clsIn X hc).here ?_))))))
  rw [hd']
  refine wpAny_pure (a := some D) (wpAny_bind (wpAny_pure (wpAny_bind ?_)))
  unfold nsSet
  refine wpAny_bind (wpAny_bind (wpAny_askSetting (wpAny_pure (wpAny_bind (wpAny_mkText (wpAny_bind (wpAny_loadPart D2 ?_)))))))
  rw [hod]
  dsimp only
  have c : (!(#[⟨a1, .str k1 t1, v1⟩] : Array DictEntry).any (·.key.isStr name) && (#[⟨a1, .str k1 t1, v1⟩] : Array DictEntry).any (·.refKey)) = false := by simp [DictEntry.refKey]
  rw [aRefKeyMayBeTheName_at, c]
  refine wpAny_updatePart D2 ?_
  refine wpAny_bind (wpAny_lookBehind D3 ?_ ?_)
  · rw [hdd]
    exact pastItsLine_dict (by rw [sizeLine_eq]; simp)
  · exact wpAny_pure (h _ _ F3 N3)
end
end Mine
end
section
open PySem PySem.W PyProof.Rows PySem.Calls
set_option maxRecDepth 100000
namespace Mine
theorem ns_some_of {K : Frag} {h : Heap} {N : Addr} {mg : Str → Option Value} {n : Str} {v : Value} (X : K.In h) (G : h.Ns N mg) (e : nsIn K N n = some (some v)) : mg n = some v := by
  obtain ⟨o, es, ep, ho, hd, _, hf⟩ := G
  unfold nsIn at e
  split at e
  · rename_i c d es' n' sl q
    have e1 := X _ _ q
    rw [ho] at e1
    cases e1
    cases hd
    split at e
    · rename_i en he
      cases e
      rw [← hf]
      unfold nsFind findBy
      rw [← Array.find?_toList, he]
      rfl
    · split at e <;> cases e
  · cases e
noncomputable def sigIn (K : Frag) (C fI : Addr) : Bool := match K.lookup C with
  | some ⟨.type "type", _, .cls cd, sl⟩ => (match cd.mro, sl.toList with
    | .ref C' :: bm, [_, _, _, _, some (.builtin n), _] => C' == C && n == "Exception.__new__" && !cd.hasDel && bm == [.type "Exception", .type "BaseException", .type "object"] && nsOkIn K cd.ns && nsIn K cd.ns "__init__" == some (some (.ref fI))
    | _, _ => false)
  | _ => false
theorem sig_of {K : Frag} {h : Heap} {C fI : Addr} (X : K.In h) (e : sigIn K C fI = true) :
    ∃ nm q N bs hdct sn sub ab col dd k0 k1 k2 k3 k5, h.get? C = some (excClassObj nm q C N bs [.type "Exception", .type "BaseException", .type "object"] hdct sn sub ab col dd k0 k1 k2 k3 k5 "Exception.__new__") ∧ h.Ns N (h.nsMap N) ∧ h.nsMap N "__init__" = some (.ref fI) := by
  unfold sigIn at e
  split at e
  · rename_i dd cd sl ho
    split at e
    · rename_i C' bm k0 k1 k2 k3 n k5 hm hs
      simp only [Bool.and_eq_true, beq_iff_eq, Bool.not_eq_true'] at e
      obtain ⟨⟨⟨⟨⟨rfl, rfl⟩, hdel⟩, hb⟩, hok⟩, hni⟩ := e
      obtain ⟨nm, bs, mro, ns, qn, hd, sn, sub, ab, col, del⟩ := cd
      dsimp only at hm hdel hok hni
      subst hm hdel hb
      have hsl : sl = #[k0, k1, k2, k3, some (.builtin "Exception.__new__"), k5] := by
        obtain ⟨l⟩ := sl
        simp only at hs
        rw [hs]
      subst hsl
      have hns : h.Ns ns (h.nsMap ns) := .of_isNs (isNs_of_in X hok)
      exact ⟨nm, qn, ns, bs, hd, sn, sub, ab, col, dd, k0, k1, k2, k3, k5, X _ _ ho, hns, ns_some_of X hns hni⟩
    · cases e
  · cases e
theorem sig_here (w : World) : sigIn (hd.heap_1 w.params) 31 28 = true := by kernel_rfl
end Mine
namespace Mine
theorem mro_here (w : World) : (clsIn (hd.heap_1 w.params) 31).map (·.mro) = some [.ref 31, .type "Exception", .type "BaseException", .type "object"] := by kernel_rfl
theorem taker_symbol (w : World) : takerIn (hd.heap_1 w.params) 31 (Str.ofString "symbol") = some none := by kernel_rfl
theorem taker_data (w : World) : takerIn (hd.heap_1 w.params) 31 (Str.ofString "data") = some none := by kernel_rfl
theorem dict_here (w : World) : (clsIn (hd.heap_1 w.params) 31).any (·.hasDict) = true := by kernel_rfl
theorem sa_here (w : World) : findIn (hd.heap_1 w.params) (.ref 31) "__setattr__" = some (some (.builtin "object.__setattr__")) := by kernel_rfl
theorem pass_here (self : Value) : refuseLoop self "__setattr__" [.ref 31, .type "Exception", .type "BaseException", .type "object"] = pure () := by
  rw [refuseLoop_ref]
  exact PySem.F.store_Exception.passes self
noncomputable def fnAt (K : Frag) (f : Addr) : Bool := match K.lookup f with
  | some o => o.cls == .type "function"
  | none => false
theorem fn_of {K : Frag} {h : Heap} {f : Addr} (X : K.In h) (e : fnAt K f = true) : ∃ o, h.get? f = some o ∧ o.cls = .type "function" := by
  unfold fnAt at e
  split at e
  · rename_i o ho
    exact ⟨o, X _ _ ho, by simpa using e⟩
  · cases e
theorem fn_here (w : World) : fnAt (hd.heap_1 w.params) 28 = true := by kernel_rfl
theorem new_entry {h₀ h h' : Heap} {L e : Addr} {m : Str → Option Value} {o : Obj} (F : Fr h₀ L h m) (hn : h.get? e = none) (he : h'.get? e = some o) : h'.get? e = some o ∧ e ≠ L ∧ h₀.get? e = none := by
  refine ⟨he, ?_, ?_⟩
  · intro z
    obtain ⟨oL, es, ep, hL, _⟩ := F.ns
    rw [z, hL] at hn
    cases hn
  · cases q : h₀.get? e with
    | none => rfl
    | some o' =>
      rw [F.keep _ _ q] at hn
      cases hn
abbrev sigObj (tp D : Addr) : Obj := { cls := .ref 31, dict := some D, data := .fields #[.ref tp, .none, .none, .none, .bool false, .none] }
abbrev sigArgs (x : Str) (t : Tok) (l : Addr) : Obj := { cls := .type "tuple", data := .seq [.str x t, .ref l].toArray }
noncomputable def CtS : Prop :=
  ∀ (w : World) (mean : ExcName → Option Value) (mg mb : Str → Option Value) (news : List (Addr × Obj)) (dp un : Nat) (gd : Option (List Code)) (cn : Str) (cs : Scope) (a : Addr) (ccd : Value) (cl : List (Str × Addr)) (outer : List Env) (A₀ : Around) (base h₀ : Heap) (L : Addr) (m : Str → Option Value) (s : Shared) (Q E : Value → Shared → Prop) (x : Str) (t : Tok) (l : Addr),
    Below A₀ base outer h₀ → Fr h₀ L s.heap m → (hd.heap_1 w.params).In h₀ → News h₀ L s.heap news → Top hd.view_1 (looseW hd.view_1 []) mean mg mb h₀ → cs.kind = .function →
    dp + 3 < recursionLimit → un + 100 < cLine → (∀ (e tp D : Addr) (h' : Heap) (tk' : Nat), Fr h₀ L h' m → News h₀ L h' ((e, sigObj tp D) :: (tp, sigArgs x t l) :: news) → (∀ p ∈ news, p.1 ≠ e ∧ p.1 ≠ tp) → Q (.ref e) { s with heap := h', toks := tk' }) →
    wpAny (model PySem.Challenge.rw_np0038_01.row.prog w) (ktrTop dp un gd cn cs L a ccd cl outer) (call (.ref 31) [.str x t, .ref l]) Q E s
set_option maxHeartbeats 8000000
theorem c_signal : CtS := by
  unfold CtS
  k_fill
  w_top off
  k_with_none
  intro w mean mg mb news dp un gd cn cs a ccd cl outer A₀ base h₀ L m s Q E x tx l hB F0 X0 N0 hTop hk hd1 hu hret
  have X1 : (hd.heap_1 w.params).In s.heap := fun b o q => F0.keep _ _ (X0 b o q)
  obtain ⟨nm, qn, N, bs, hdct, sn, sub, ab, col, dd, k0, k1, k2, k3, k5, hC, hn, hi⟩ := sig_of X1 (sig_here w)
  obtain ⟨oI, hfI, hfc⟩ := fn_of X1 (fn_here w)
  obtain ⟨hp, g, d, tk, os⟩ := s
  refine wpAny_call_exc_init PySem.F.excBase_Exception hC hn hi hfI hfc (fun h1 e hm => ?_)
  obtain ⟨tp, he, htn, ht⟩ := hm.there
  have F1 := F0.keeps hm.keeps
  have hne : e ≠ tp := by
    intro z
    rw [z, ht] at he
    cases he
  have N1 : News h₀ L h1 ((e, { cls := .ref 31, data := .fields #[.ref tp, .none, .none, .none, .bool false, .none] }) :: (tp, { cls := .type "tuple", data := .seq #[.str x tx, .ref l] }) :: news) := by
    intro p hp'
    rcases List.mem_cons.mp hp' with rfl | hp'
    · exact new_entry F0 hm.new he
    rcases List.mem_cons.mp hp' with rfl | hp'
    · exact new_entry F0 htn ht
    · exact ⟨hm.keeps _ _ (N0 p hp').1, (N0 p hp').2⟩
  have hpe : ∀ p ∈ ((tp, { cls := .type "tuple", data := .seq #[.str x tx, .ref l] }) :: news : List (Addr × Obj)), p.1 ≠ e := by
    intro p hp' z
    rcases List.mem_cons.mp hp' with rfl | hp'
    · exact hne z.symm
    · have := (N0 p hp').1
      rw [z] at this
      exact absurd (this.symm.trans hm.new) (by simp)
  have hpt : ∀ p ∈ news, p.1 ≠ tp := by
    intro p hp' z
    have := (N0 p hp').1
    rw [z] at this
    exact absurd (this.symm.trans htn) (by simp)
  clear F0 N0
  refine wpAny_call ?_
  k_dflt cell_enter
  k_steps
  (rename Fr _ _ _ _ => fX); (rename News _ _ _ _ => nX); (rename Frag.In _ _ => xX)
  have hI : ∀ h9 : Heap, h9.get? e = some { cls := .ref 31, data := .fields #[.ref tp, .none, .none, .none, .bool false, .none] } → InstAt h9 e { cls := .ref 31, data := .fields #[.ref tp, .none, .none, .none, .bool false, .none] } 31 none := fun h9 q => ⟨q, rfl, rfl, trivial⟩
  refine set_plain (fun b o q => fX.keep _ _ (xX b o q)) (hI _ (nX _ (.head _)).1) (sa_here w) ?_
  refine exc_first fX nX (fun b o q => fX.keep _ _ (xX b o q)) (hI _ (nX _ (.head _)).1) rfl (mro_here w) rfl rfl pass_here (taker_symbol w) (dict_here w) (fun _ => rfl) hpe ?_
  intro D od h2 fY nY hDe hDp hod
  clear fX nX
  dsimp only
  k_steps
  (rename Fr _ _ _ _ => fX); (rename News _ _ _ _ => nX)
  have hJ : ∀ h9 : Heap, h9.get? e = some { cls := .ref 31, dict := some D, data := .fields #[.ref tp, .none, .none, .none, .bool false, .none] } → h9.get? D = some od → InstAt h9 e { cls := .ref 31, dict := some D, data := .fields #[.ref tp, .none, .none, .none, .bool false, .none] } 31 (some od) := fun h9 q q2 => ⟨q, rfl, rfl, q2⟩
  refine set_plain (fun b o q => fX.keep _ _ (xX b o q)) (hJ _ (nX _ (.tail _ (.head _))).1 (nX _ (.head _)).1) (sa_here w) ?_
  refine exc_next fX nX (fun b o q => fX.keep _ _ (xX b o q)) (hJ _ (nX _ (.tail _ (.head _))).1 (nX _ (.head _)).1) rfl (mro_here w) rfl rfl pass_here (taker_data w) (dict_here w) hod (by decide +kernel) hDe hDp ?_
  intro od' h3 fY nY
  clear fX nX
  dsimp only
  k_steps
  (rename Fr _ _ _ _ => fX); (rename News _ _ _ _ => nX)
  exact hret e tp D _ _ fX (fun p hp => nX p (.tail _ hp)) (fun p hp => ⟨hpe p (.tail _ hp), hpt p hp⟩)
end Mine
end
section
open PySem PySem.W PyProof.Rows PySem.Calls PySem.Spec PyProof.V
set_option maxRecDepth 100000
namespace Mine
/-- the exception stands ready to be raised -/
noncomputable def RaiseAt (E : Value → Shared → Prop) (v : Value) (s₁ : Shared) : Prop :=
  ∃ e tp D, v = .ref e ∧ (∃ nm q N bs hdct sn sub ab col dd k0 k1 k2 k3 k5, s₁.heap.get? 31 = some (excClassObj nm q 31 N bs [.type "Exception", .type "BaseException", .type "object"] hdct sn sub ab col dd k0 k1 k2 k3 k5 "Exception.__new__")) ∧ s₁.heap.get? e = some (sigObj tp D) ∧ E (.ref e) s₁
section
variable {M : Model} {A : Around} {E : Value → Shared → Prop} {env : Env}
theorem raise_stmt {s : Shared} {x : Sem Value} {Q : Flow → Shared → Prop} (hh : A.handled = none) (h : wpAny M A x (RaiseAt E) E s) : wpAny M A (raiseStmt env (some x) none) Q E s := by
  unfold raiseStmt
  refine wpAny_bind (wpAny_mono h (fun v s₁ h₁ => ?_) fun _ _ x => x)
  obtain ⟨e, tp, D, rfl, ⟨nm, q, N, bs, hdct, sn, sub, ab, col, dd, k0, k1, k2, k3, k5, hC⟩, he, hE⟩ := h₁
  have hcB : (Value.ref 31 :: [Value.type "Exception", .type "BaseException", .type "object"]).contains (.type "BaseException") = true := by decide +kernel
  obtain ⟨hp, g, d, tk, os⟩ := s₁
  repeat (first | with_reducible refine wpAny_loadPart_at he ?_ | with_reducible refine wpAny_loadPart_at hC ?_ | (with_reducible refine wpAny_isSubtype_exc hC ?_; rw [hcB]) | wp_step)
  exact wpAny_raiseNew_none hh hE
end
theorem raise_eval {prog : Program} {w : World} {A : Around} {E : Value → Shared → Prop} {s : Shared} {env : Env} {ex : PySem.Expr} {pos : Pos} {Q : Flow → Shared → Prop} (hh : A.handled = none)
    (h : wpAny (model prog w) A (eval ex env) (RaiseAt E) E s) (hev : ∀ x, evalOpt (some ex) env = some x → x = eval ex env := by intro x e; cases e; rfl) (hs : (evalOpt (some ex) env).isSome = true := by rfl) : wpAny (model prog w) A (exec (.Raise (some ex) none pos) env) Q E s := by
  rw [arm_exec_Raise]
  refine wpAny_bind (wpAny_standAt ?_)
  cases q : evalOpt (some ex) env with
  | none => rw [q] at hs; cases hs
  | some y =>
    obtain rfl := hev y q
    exact raise_stmt hh (wpAny_bind (wpAny_mono h (fun v s₃ h₃ => wpAny_bind (wpAny_standAt (wpAny_pure h₃))) fun _ _ x => x))
section
variable {M : Model} {A : Around} {E : Value → Shared → Prop} {s' : Shared} {base g : Heap} {outer : List Env} {L a e tp D : Addr} {m : Str → Option Value} {name : Str} {scope : Scope} {cd : Value} {Q : Unit → Shared → Prop} {news : List (Addr × Obj)} {x : Str} {t : Tok} {l : Addr}
end
end Mine
end
section
open PySem PySem.W PyProof.Rows PySem.Calls
set_option maxRecDepth 100000
namespace Mine
section
variable {M : Model} {A : Around} {E : Value → Shared → Prop} {s' : Shared} {base g : Heap} {outer : List Env} {L a e tp D : Addr} {m : Str → Option Value} {name : Str} {scope : Scope} {cd : Value} {Q : Unit → Shared → Prop} {news news2 : List (Addr × Obj)} {x : Str} {t : Tok} {l : Addr}
theorem leave_sigS (K : Below A base outer g) (F : Fr g L s'.heap m) (N : News g L s'.heap ((e, sigObj tp D) :: (tp, sigArgs x t l) :: news2)) (hne : ∀ p ∈ news2, p.1 ≠ e ∧ p.1 ≠ tp) (hsub : ∀ p ∈ news, p ∈ news2)
    (hQ : ∀ h', RaisedS base g outer e (.ref 31) tp [.str x t, .ref l] news h' → g.UpToSlots h' → Q () { s' with heap := h' }) (hk : scope.kind = .function := by rfl) :
    wpAny M (A.deeper (envOf name scope L a cd)) (leaving (envOf name scope L a cd) (.ref e)) Q E s' := by
  have K' := K.push (name := name) (a := a) (cd := cd) F hk
  have he := N _ (.head _)
  have ht := N _ (.tail _ (.head _))
  have hin : ∀ env ∈ (envOf name scope L a cd :: outer), ∀ b, env.frame = some b → b ∈ (envOf name scope L a cd :: outer).filterMap (·.frame) ++ [e, tp] := fun env he b hb => List.mem_append.mpr (.inl (List.mem_filterMap.mpr ⟨env, he, hb⟩))
  have hbe : base.get? e = none := fresh_of_stays K.stays he.2.2
  have hbt : base.get? tp = none := fresh_of_stays K.stays ht.2.2
  have st : base.StaysIn (hideAll s'.heap ((envOf name scope L a cd :: outer).filterMap (·.frame) ++ [e, tp])) := fun b o q => hideAll_get _ (K'.stays b o q) fun hm => by
    rcases List.mem_append.mp hm with hm | hm
    · rw [(K'.frames.mem hm).1] at q; cases q
    · rcases List.mem_cons.mp hm with rfl | hm
      · rw [hbe] at q; cases q
      · rw [List.mem_singleton.mp hm, hbt] at q; cases q
  have sg : ∀ b o, g.get? b = some o → b ∉ outer.filterMap (·.frame) → (hideAll s'.heap ((envOf name scope L a cd :: outer).filterMap (·.frame) ++ [e, tp])).get? b = some o := fun b o q nm => hideAll_get _ (F.keep b o q) fun hm => by
    rcases List.mem_append.mp hm with hm | hm
    · rcases kts_mem hm with z | z
      · rw [z, kts_self F] at q
        cases q
      · exact nm z
    · rcases List.mem_cons.mp hm with rfl | hm
      · rw [he.2.2] at q; cases q
      · rw [List.mem_singleton.mp hm, ht.2.2] at q; cases q
  have hl : ∀ q ∈ news, (hideAll s'.heap ((envOf name scope L a cd :: outer).filterMap (·.frame) ++ [e, tp])).get? q.1 = some q.2 ∧ g.get? q.1 = none ∧ base.get? q.1 = none := fun q hq => by
    have Nq := N q (.tail _ (.tail _ (hsub q hq)))
    refine ⟨hideAll_get _ Nq.1 fun hm => ?_, Nq.2.2, fresh_of_stays K.stays Nq.2.2⟩
    rcases List.mem_append.mp hm with hm | hm
    · obtain ⟨env, he', hf⟩ := List.mem_filterMap.mp hm
      rcases List.mem_cons.mp he' with rfl | he'
      · exact Nq.2.1 (Option.some.inj hf).symm
      · obtain ⟨o, ho, _⟩ := (K.frames.mem (List.mem_filterMap.mpr ⟨env, he', hf⟩)).2
        rw [Nq.2.2] at ho; cases ho
    · rcases List.mem_cons.mp hm with h1 | hm
      · exact (hne q (hsub q hq)).1 h1
      · exact (hne q (hsub q hq)).2 (List.mem_singleton.mp hm)
  have hBe : (hideAll s'.heap ((envOf name scope L a cd :: outer).filterMap (·.frame) ++ [e, tp])).get? e = none := hideAll_none _ (List.mem_append.mpr (.inr (.head _)))
  have hBt : (hideAll s'.heap ((envOf name scope L a cd :: outer).filterMap (·.frame) ++ [e, tp])).get? tp = none := hideAll_none _ (List.mem_append.mpr (.inr (.tail _ (.head _))))
  refine wpAny_leaving_firstW (a0 := .ref tp) K'.stack (funFrames_hide K'.frames hin) rfl he.1 (fun b o q => of_hideAll _ q) hBe rfl rfl rfl fun h' hL => ?_
  obtain ⟨k1, ⟨_, _, k2⟩, k3, k4⟩ := hL
  exact hQ h' ⟨⟨_, st, sg, hl, ⟨k1, hBe, k2, k3⟩, hBt⟩, Heap.TupAt.of_slots ⟨_, _, ht.1, rfl, rfl⟩ k4⟩ ((Heap.UpToSlots.of_keeps F.keep).trans k4)
end
noncomputable def vgetL (vx vy w : List Nat) : Option (List Nat) := if w = [88] then some vx else if w = [89] then some vy else none
/-- what substituted yields, ahead of the new beginning -/
noncomputable def sub (vx vy : List Nat) : List Nat → Option (List Nat)
  | [] => some []
  | c :: r =>
    if c ≠ 36 then (sub vx vy r).map (c :: ·)
    else if r.take 1 = [36] then (sub vx vy (r.drop 1)).map (36 :: ·)
    else if r.take 1 = [123] then
      (match vgetL vx vy ((r.drop 1).takeWhile isSign) with
        | none => none
        | some z => if (r.drop (1 + ((r.drop 1).takeWhile isSign).length)).take 1 = [125] then (sub vx vy (r.drop (2 + ((r.drop 1).takeWhile isSign).length))).map (z ++ ·) else none)
    else
      (match vgetL vx vy (r.takeWhile isSign) with
        | none => none
        | some z => (sub vx vy (r.drop (r.takeWhile isSign).length)).map (z ++ ·))
termination_by l => l.length
decreasing_by
  all_goals simp only [List.length_cons, List.length_drop]
  all_goals omega
theorem vget_L (vx vy x : Str) : (vget vx vy x).map Lx = vgetL (Lx vx) (Lx vy) (Lx x) := by
  have e1 : Lx (Str.ofString "X") = [88] := by decide +kernel
  have e2 : Lx (Str.ofString "Y") = [89] := by decide +kernel
  unfold vget vgetL
  by_cases h1 : x = Str.ofString "X"
  · subst h1; rw [if_pos rfl, if_pos e1]; rfl
  · have h1' : ¬ Lx x = [88] := fun e => h1 (ext_L (by rw [e, e1]))
    rw [if_neg h1, if_neg h1']
    by_cases h2 : x = Str.ofString "Y"
    · subst h2; rw [if_pos rfl, if_pos e2]; rfl
    · have h2' : ¬ Lx x = [89] := fun e => h2 (ext_L (by rw [e, e2]))
      rw [if_neg h2, if_neg h2']
      rfl
end Mine
end
section
open PySem PySem.W PyProof.Rows PySem.Calls
namespace Mine
noncomputable def CtU (k : Nat) (pre : Prop) (x : Str) (t : Tok) (vx vy : Str) (o : Option (List Nat)) : Prop :=
  ∀ (w : World) (mean : ExcName → Option Value) (mg mb : Str → Option Value) (news : List (Addr × Obj)) (dv : Addr) (dp un : Nat) (gd : Option (List Code)) (cn : Str) (cs : Scope) (a : Addr) (ccd : Value) (cl : List (Str × Addr)) (outer : List Env) (A₀ : Around) (base h₀ : Heap) (L : Addr) (m : Str → Option Value) (s : Shared) (Q E : Value → Shared → Prop),
    Below A₀ base outer h₀ → Fr h₀ L s.heap m → (hd.heap_1 w.params).In h₀ → News h₀ L s.heap news → Top hd.view_1 (looseW hd.view_1 []) mean mg mb h₀ → cs.kind = .function → Vals PySem.Challenge.rw_np0038_01.row.prog w news dv vx vy → pre →
    dp + k < recursionLimit → un + 8 * k < cLine →
    (∀ (R : List Nat) (t : Tok) (h' : Heap) (tk' : Nat), o = some R → Fr h₀ L h' m → News h₀ L h' news → Q (.str (S (R.drop (rs R R.length))) t) { s with heap := h', toks := tk' }) →
    (o = none → ∀ (e tp : Addr) (vs : List Value) (G h' : Heap) (tk' : Nat), Fr h₀ L G m → RaisedS base G (envX cn cs L a ccd cl :: outer) e (.ref 31) tp vs news h' → G.UpToSlots h' → E (.ref e) { s with heap := h', toks := tk' }) →
    wpAny (model PySem.Challenge.rw_np0038_01.row.prog w) (ktrTop dp un gd cn cs L a ccd cl outer) (call (.ref 153) [.str x t, .ref dv]) Q E s
theorem CtS.use (C : CtS) {w : World} {mean : ExcName → Option Value} {mg mb : Str → Option Value} {news : List (Addr × Obj)} {dp un : Nat} {gd : Option (List Code)} {cn : Str} {cs : Scope} {a : Addr} {ccd : Value} {cl : List (Str × Addr)} {outer : List Env} {A₀ : Around} {base h₀ : Heap} {L : Addr} {m : Str → Option Value} {s : Shared} {Q E : Value → Shared → Prop} {x : Str} {t : Tok} {l : Addr}
    (B : Below A₀ base outer h₀) (F : Fr h₀ L s.heap m) (X : (hd.heap_1 w.params).In h₀) (N : News h₀ L s.heap news) (T : Top hd.view_1 (looseW hd.view_1 []) mean mg mb h₀) (hk : cs.kind = .function)
    (hd : dp + 3 < recursionLimit) (hu : un + 100 < cLine) (hret : ∀ (e tp D : Addr) (h' : Heap) (tk' : Nat), Fr h₀ L h' m → News h₀ L h' ((e, sigObj tp D) :: (tp, sigArgs x t l) :: news) → (∀ p ∈ news, p.1 ≠ e ∧ p.1 ≠ tp) → Q (.ref e) { s with heap := h', toks := tk' }) :
    wpAny (model PySem.Challenge.rw_np0038_01.row.prog w) (ktrTop dp un gd cn cs L a ccd cl outer) (call (.ref 31) [.str x t, .ref l]) Q E s :=
  C w mean mg mb news dp un gd cn cs a ccd cl outer A₀ base h₀ L m s Q E x t l B F X N T hk hd hu hret
end Mine
namespace Mine
noncomputable def subP (x vx vy f : Str) (a : Int) : Prop := sub (Lx vx) (Lx vy) (Lx x) = (sub (Lx vx) (Lx vy) ((Lx x).drop a.toNat)).map (Lx f ++ ·)
theorem sub_start (x vx vy : Str) : subP x vx vy (Str.ofString "") 0 := by
  unfold subP
  have e : Lx (Str.ofString "") = [] := by decide +kernel
  rw [e]
  show _ = Option.map (fun y => y) _
  simp
theorem sub_plain {x vx vy f : Str} {a : Int} (h0 : 0 ≤ a) (h1 : a < x.length) (hd : (Txt.item x a != Str.ofString "$") = true) (hf : (f.length : Int) ≤ 3 * a) (hP : subP x vx vy f a) :
    0 ≤ a + 1 ∧ a + 1 ≤ x.length ∧ ((f ++ Txt.item x a).length : Int) ≤ 3 * (a + 1) ∧ subP x vx vy (f ++ Txt.item x a) (a + 1) := by
  have hl := len_L x
  rw [bne, dollar_lit, item_is x h0 h1, Bool.not_eq_true', decide_eq_false_iff_not] at hd
  have e1 : (a + 1).toNat = a.toNat + 1 := by omega
  refine ⟨by omega, by omega, ?_, ?_⟩
  · rw [app_S, item_S x h0 h1, L_S, len_S, List.length_append, List.length_singleton, len_L]
    omega
  · unfold subP at *
    rw [hP, drop_get (by omega), sub, if_pos hd, e1, Option.map_map, app_S, item_S x h0 h1, L_S, L_S]
    congr 1
    funext y
    simp
theorem one_eq (x : Str) {a : Int} {c : Nat} (h0 : 0 ≤ a) : (Txt.slice x (some (a + 1)) (some (a + 2)) == S [c]) = decide (((Lx x).drop (a.toNat + 1)).take 1 = [c]) := by
  rw [slice_mid x (by omega) (by omega), beq_S, L_S]
  have e1 : (a + 1).toNat = a.toNat + 1 := by omega
  have e2 : (a + 2).toNat - (a.toNat + 1) = 1 := by omega
  rw [e1, e2]
theorem brace_lit : Str.ofString "{" = S [123] := by decide +kernel
theorem close_lit : Str.ofString "}" = S [125] := by decide +kernel
theorem take_one {l : List Nat} {c : Nat} (h : l.take 1 = [c]) : 0 < l.length := by
  cases l with
  | nil => cases h
  | cons d r => simp
theorem sub_dollar {x vx vy f : Str} {a : Int} (h0 : 0 ≤ a) (h1 : a < x.length) (hd : (Txt.item x a != Str.ofString "$") = false) (h2 : (Txt.slice x (some (a + 1)) (some (a + 2)) == Str.ofString "$") = true) (hf : (f.length : Int) ≤ 3 * a) (hP : subP x vx vy f a) :
    0 ≤ a + 2 ∧ a + 2 ≤ x.length ∧ ((f ++ Str.ofString "$").length : Int) ≤ 3 * (a + 2) ∧ subP x vx vy (f ++ Str.ofString "$") (a + 2) := by
  have hl := len_L x
  rw [bne, dollar_lit, item_is x h0 h1, Bool.not_eq_false', decide_eq_true_eq] at hd
  rw [dollar_lit, one_eq x h0, decide_eq_true_eq] at h2
  have h3 := take_one h2
  rw [List.length_drop] at h3
  have e1 : (a + 2).toNat = a.toNat + 1 + 1 := by omega
  refine ⟨by omega, by omega, ?_, ?_⟩
  · rw [app_S, dollar_lit, L_S, len_S, List.length_append, List.length_singleton, len_L]
    omega
  · unfold subP at *
    rw [hP, drop_get (by omega), hd, sub, if_neg (by simp), if_pos h2, e1, Option.map_map, List.drop_drop, app_S, dollar_lit, L_S, L_S]
    congr 1
    funext y
    simp
theorem takeWhile_take (p : Nat → Bool) : ∀ l : List Nat, l.take (l.takeWhile p).length = l.takeWhile p
  | [] => rfl
  | d :: r => by
    rw [List.takeWhile_cons]
    split
    · simp [takeWhile_take p r]
    · rfl
theorem word_eq (x : Str) {k : Int} (h0 : 0 ≤ k) : Txt.slice x (some k) (some (varEnd (Lx x) k.toNat : Int)) = S (((Lx x).drop k.toNat).takeWhile isSign) := by
  rw [slice_mid x h0 (by omega)]
  have e : (varEnd (Lx x) k.toNat : Int).toNat - k.toNat = (((Lx x).drop k.toNat).takeWhile isSign).length := by unfold varEnd; omega
  rw [e, takeWhile_take]
theorem word_get {x vx vy z : Str} {k : Int} (h0 : 0 ≤ k) (h : vget vx vy (Txt.slice x (some k) (some (varEnd (Lx x) k.toNat : Int))) = some z) : vgetL (Lx vx) (Lx vy) (((Lx x).drop k.toNat).takeWhile isSign) = some (Lx z) := by
  have := vget_L vx vy (Txt.slice x (some k) (some (varEnd (Lx x) k.toNat : Int)))
  rw [h, word_eq x h0, L_S] at this
  exact this.symm
theorem word_none {x vx vy : Str} {k : Int} (h0 : 0 ≤ k) (h : (vget vx vy (Txt.slice x (some k) (some (varEnd (Lx x) k.toNat : Int)))).isSome = false) : vgetL (Lx vx) (Lx vy) (((Lx x).drop k.toNat).takeWhile isSign) = none := by
  have h1 : vget vx vy (Txt.slice x (some k) (some (varEnd (Lx x) k.toNat : Int))) = none := by
    cases e : vget vx vy (Txt.slice x (some k) (some (varEnd (Lx x) k.toNat : Int))) with
    | none => rfl
    | some z => rw [e] at h; cases h
  have := vget_L vx vy (Txt.slice x (some k) (some (varEnd (Lx x) k.toNat : Int)))
  rw [h1, word_eq x h0, L_S] at this
  exact this.symm
theorem close_eq (x : Str) {k : Int} : (Txt.slice x (some (varEnd (Lx x) k.toNat : Int)) (some ((varEnd (Lx x) k.toNat : Int) + 1)) != Str.ofString "}") = decide (((Lx x).drop (varEnd (Lx x) k.toNat)).take 1 ≠ [125]) := by
  rw [slice_mid x (by omega) (by omega), close_lit, bne_S, L_S]
  have e1 : (varEnd (Lx x) k.toNat : Int).toNat = varEnd (Lx x) k.toNat := by omega
  have e2 : ((varEnd (Lx x) k.toNat : Int) + 1).toNat - varEnd (Lx x) k.toNat = 1 := by omega
  rw [e1, e2]
theorem sub_brace {x vx vy f z : Str} {a : Int} (h0 : 0 ≤ a) (h1 : a < x.length) (hd : (Txt.item x a != Str.ofString "$") = false) (hn : (Txt.slice x (some (a + 1)) (some (a + 2)) == Str.ofString "$") = false) (hb : (Txt.slice x (some (a + 1)) (some (a + 2)) == Str.ofString "{") = true)
    (hz : vget vx vy (Txt.slice x (some (a + 2)) (some (varEnd (Lx x) (a + 2).toNat : Int))) = some z) (hc : (Txt.slice x (some (varEnd (Lx x) (a + 2).toNat : Int)) (some ((varEnd (Lx x) (a + 2).toNat : Int) + 1)) != Str.ofString "}") = false) (hz3 : z.length ≤ 3) (hf : (f.length : Int) ≤ 3 * a) (hP : subP x vx vy f a) :
    0 ≤ (varEnd (Lx x) (a + 2).toNat : Int) + 1 ∧ (varEnd (Lx x) (a + 2).toNat : Int) + 1 ≤ x.length ∧ ((f ++ z).length : Int) ≤ 3 * ((varEnd (Lx x) (a + 2).toNat : Int) + 1) ∧ subP x vx vy (f ++ z) ((varEnd (Lx x) (a + 2).toNat : Int) + 1) := by
  have hl := len_L x
  have hg := word_get (by omega) hz
  rw [bne, dollar_lit, item_is x h0 h1, Bool.not_eq_false', decide_eq_true_eq] at hd
  rw [dollar_lit, one_eq x h0, decide_eq_false_iff_not] at hn
  rw [brace_lit, one_eq x h0, decide_eq_true_eq] at hb
  rw [close_eq, decide_eq_false_iff_not, ne_eq, Decidable.not_not] at hc
  have h3 := take_one hc
  rw [List.length_drop] at h3
  have hge := varEnd_ge (Lx x) (a + 2).toNat
  have e2 : (a + 2).toNat = a.toNat + 1 + 1 := by omega
  have hv : varEnd (Lx x) (a + 2).toNat = a.toNat + 1 + (1 + (((Lx x).drop (a.toNat + 1 + 1)).takeWhile isSign).length) := by unfold varEnd; rw [e2]; omega
  refine ⟨by omega, by omega, ?_, ?_⟩
  · rw [app_S, len_S, List.length_append, len_L, len_L]
    omega
  · unfold subP at *
    have e3 : ((varEnd (Lx x) (a + 2).toNat : Int) + 1).toNat = a.toNat + 1 + (2 + (((Lx x).drop (a.toNat + 1 + 1)).takeWhile isSign).length) := by omega
    rw [e2] at hg
    rw [hv, ← List.drop_drop] at hc
    rw [hP, drop_get (by omega), hd, sub, if_neg (by simp), if_neg hn, if_pos hb, List.drop_drop, hg]
    dsimp only
    rw [if_pos hc, Option.map_map, List.drop_drop, e3, app_S, L_S]
    congr 1
    funext y
    simp
theorem sub_word {x vx vy f z : Str} {a : Int} (h0 : 0 ≤ a) (h1 : a < x.length) (hd : (Txt.item x a != Str.ofString "$") = false) (hn : (Txt.slice x (some (a + 1)) (some (a + 2)) == Str.ofString "$") = false) (hb : (Txt.slice x (some (a + 1)) (some (a + 2)) == Str.ofString "{") = false)
    (hz : vget vx vy (Txt.slice x (some (a + 1)) (some (varEnd (Lx x) (a + 1).toNat : Int))) = some z) (hz3 : z.length ≤ 3) (hf : (f.length : Int) ≤ 3 * a) (hP : subP x vx vy f a) :
    0 ≤ (varEnd (Lx x) (a + 1).toNat : Int) ∧ (varEnd (Lx x) (a + 1).toNat : Int) ≤ x.length ∧ ((f ++ z).length : Int) ≤ 3 * (varEnd (Lx x) (a + 1).toNat : Int) ∧ subP x vx vy (f ++ z) (varEnd (Lx x) (a + 1).toNat : Int) := by
  have hl := len_L x
  have hg := word_get (by omega) hz
  rw [bne, dollar_lit, item_is x h0 h1, Bool.not_eq_false', decide_eq_true_eq] at hd
  rw [dollar_lit, one_eq x h0, decide_eq_false_iff_not] at hn
  rw [brace_lit, one_eq x h0, decide_eq_false_iff_not] at hb
  have hge := varEnd_ge (Lx x) (a + 1).toNat
  have hle := varEnd_le (Lx x) (a + 1).toNat
  have e2 : (a + 1).toNat = a.toNat + 1 := by omega
  have hv : varEnd (Lx x) (a + 1).toNat = a.toNat + 1 + (((Lx x).drop (a.toNat + 1)).takeWhile isSign).length := by unfold varEnd; rw [e2]
  refine ⟨by omega, by omega, ?_, ?_⟩
  · rw [app_S, len_S, List.length_append, len_L, len_L]
    omega
  · unfold subP at *
    have e3 : (varEnd (Lx x) (a + 1).toNat : Int).toNat = a.toNat + 1 + (((Lx x).drop (a.toNat + 1)).takeWhile isSign).length := by omega
    rw [e2] at hg
    rw [hP, drop_get (by omega), hd, sub, if_neg (by simp), if_neg hn, if_neg hb, hg]
    dsimp only
    rw [Option.map_map, List.drop_drop, e3, app_S, L_S]
    congr 1
    funext y
    simp
theorem sub_none1 {x vx vy f : Str} {a : Int} (h0 : 0 ≤ a) (h1 : a < x.length) (hd : (Txt.item x a != Str.ofString "$") = false) (hn : (Txt.slice x (some (a + 1)) (some (a + 2)) == Str.ofString "$") = false) (hb : (Txt.slice x (some (a + 1)) (some (a + 2)) == Str.ofString "{") = true)
    (hc : (Txt.slice x (some (varEnd (Lx x) (a + 2).toNat : Int)) (some ((varEnd (Lx x) (a + 2).toNat : Int) + 1)) != Str.ofString "}") = true) (hP : subP x vx vy f a) : sub (Lx vx) (Lx vy) (Lx x) = none := by
  have hl := len_L x
  rw [bne, dollar_lit, item_is x h0 h1, Bool.not_eq_false', decide_eq_true_eq] at hd
  rw [dollar_lit, one_eq x h0, decide_eq_false_iff_not] at hn
  rw [brace_lit, one_eq x h0, decide_eq_true_eq] at hb
  rw [close_eq, decide_eq_true_eq] at hc
  have e2 : (a + 2).toNat = a.toNat + 1 + 1 := by omega
  have hv : varEnd (Lx x) (a + 2).toNat = a.toNat + 1 + (1 + (((Lx x).drop (a.toNat + 1 + 1)).takeWhile isSign).length) := by unfold varEnd; rw [e2]; omega
  rw [hv, ← List.drop_drop] at hc
  unfold subP at hP
  rw [hP, drop_get (by omega), hd, sub, if_neg (by simp), if_neg hn, if_pos hb, List.drop_drop]
  cases vgetL (Lx vx) (Lx vy) (List.takeWhile isSign (List.drop (a.toNat + 1 + 1) (Lx x))) with
  | none => rfl
  | some z =>
    dsimp only
    rw [if_neg hc]
    rfl
theorem sub_none2 {x vx vy f : Str} {a : Int} (h0 : 0 ≤ a) (h1 : a < x.length) (hd : (Txt.item x a != Str.ofString "$") = false) (hn : (Txt.slice x (some (a + 1)) (some (a + 2)) == Str.ofString "$") = false) (hb : (Txt.slice x (some (a + 1)) (some (a + 2)) == Str.ofString "{") = true)
    (hz : (vget vx vy (Txt.slice x (some (a + 2)) (some (varEnd (Lx x) (a + 2).toNat : Int)))).isSome = false) (hP : subP x vx vy f a) : sub (Lx vx) (Lx vy) (Lx x) = none := by
  have hl := len_L x
  have hg := word_none (by omega) hz
  rw [bne, dollar_lit, item_is x h0 h1, Bool.not_eq_false', decide_eq_true_eq] at hd
  rw [dollar_lit, one_eq x h0, decide_eq_false_iff_not] at hn
  rw [brace_lit, one_eq x h0, decide_eq_true_eq] at hb
  have e2 : (a + 2).toNat = a.toNat + 1 + 1 := by omega
  rw [e2] at hg
  unfold subP at hP
  rw [hP, drop_get (by omega), hd, sub, if_neg (by simp), if_neg hn, if_pos hb, List.drop_drop, hg]
  rfl
theorem sub_none3 {x vx vy f : Str} {a : Int} (h0 : 0 ≤ a) (h1 : a < x.length) (hd : (Txt.item x a != Str.ofString "$") = false) (hn : (Txt.slice x (some (a + 1)) (some (a + 2)) == Str.ofString "$") = false) (hb : (Txt.slice x (some (a + 1)) (some (a + 2)) == Str.ofString "{") = false)
    (hz : (vget vx vy (Txt.slice x (some (a + 1)) (some (varEnd (Lx x) (a + 1).toNat : Int)))).isSome = false) (hP : subP x vx vy f a) : sub (Lx vx) (Lx vy) (Lx x) = none := by
  have hl := len_L x
  have hg := word_none (by omega) hz
  rw [bne, dollar_lit, item_is x h0 h1, Bool.not_eq_false', decide_eq_true_eq] at hd
  rw [dollar_lit, one_eq x h0, decide_eq_false_iff_not] at hn
  rw [brace_lit, one_eq x h0, decide_eq_false_iff_not] at hb
  have e2 : (a + 1).toNat = a.toNat + 1 := by omega
  rw [e2] at hg
  unfold subP at hP
  rw [hP, drop_get (by omega), hd, sub, if_neg (by simp), if_neg hn, if_neg hb, hg]
  rfl
theorem sub_end {x vx vy f : Str} {a : Int} (h1 : ¬ a < x.length) (h2 : a ≤ x.length) (hP : subP x vx vy f a) : sub (Lx vx) (Lx vy) (Lx x) = some (Lx f) := by
  have hl := len_L x
  unfold subP at hP
  rw [hP, List.drop_eq_nil_of_le (by omega), sub]
  simp
theorem sub_tail' {f : Str} : Txt.slice f (some (rs (Lx f) f.length : Int)) none = S ((Lx f).drop (rs (Lx f) (Lx f).length)) := by
  rw [slice_from f (by omega), len_L]
  congr 2
end Mine
namespace Mine
theorem raise_at {w : World} {E : Value → Shared → Prop} {s : Shared} {g : Heap} {L e tp D : Addr} {m : Str → Option Value} {news : List (Addr × Obj)} (F : Fr g L s.heap m) (X : (hd.heap_1 w.params).In g) (N : News g L s.heap ((e, sigObj tp D) :: news)) (h : E (.ref e) s) : RaiseAt E (.ref e) s := by
  have X1 : (hd.heap_1 w.params).In s.heap := fun b o q => F.keep _ _ (X b o q)
  obtain ⟨nm, q, N', bs, hdct, sn, sub, ab, col, dd, k0, k1, k2, k3, k5, hC, _, _⟩ := sig_of X1 (sig_here w)
  exact ⟨e, tp, D, rfl, ⟨nm, q, N', bs, hdct, sn, sub, ab, col, dd, k0, k1, k2, k3, k5, hC⟩, (N _ (.head _)).1, h⟩
end Mine
end
section
open PySem PySem.W PyProof.Rows
set_option maxRecDepth 100000
set_option maxHeartbeats 8000000
namespace Mine
theorem c_sub (x : Str) (t : Tok) (vx vy : Str) : CtU 30 (x.length ≤ 100 ∧ vx.length ≤ 3 ∧ vy.length ≤ 3) x t vx vy (sub (Lx vx) (Lx vy) (Lx x)) := by
  unfold CtU
  k_fill
  w_top off
  k_with_none
  k_with "ite @" => first | with_reducible refine ite_tt ?_ | with_reducible refine ite_ff ?_
  k_with "call ref @" => (k_here; (with_reducible show wpAny _ _ (call (Value.ref 139) _) _ _ _); k_dflt (refine' Ct.useF (cf_restart_of _ _) ?k1q51 ?k2q51 ?k3q51 ?k4q51 ?k5q51 ?kKq51 ?kpq51 ?kdq51 ?kuq51 ?_; (case k1q51 => k_asm); (case k2q51 => k_asm); (case k3q51 => k_asm); (case k4q51 => k_asm); (case k5q51 => k_asm); (case kKq51 => first | exact rfl | assumption); (case kpq51 => first | omega | k_extra "size"); (case kdq51 => ktr_room); (case kuq51 => ktr_units)); intro hf9 t9 h9 tk9 F9 N9; (try dsimp only); (try k_sweep))
  k_with "call ref @" => (k_here; (with_reducible show wpAny _ _ (call (Value.ref 146) _) _ _ _); k_dflt (refine' Ct.useF (cf_variable_end _ _ _ _) ?k1q52 ?k2q52 ?k3q52 ?k4q52 ?k5q52 ?kKq52 ?kpq52 ?kdq52 ?kuq52 ?_; (case k1q52 => k_asm); (case k2q52 => k_asm); (case k3q52 => k_asm); (case k4q52 => k_asm); (case k5q52 => k_asm); (case kKq52 => first | exact rfl | assumption); (case kpq52 => first | omega | k_extra "size"); (case kdq52 => ktr_room); (case kuq52 => ktr_units)); intro hf9 t9 h9 tk9 F9 N9; (try dsimp only); (try k_sweep))
  k_with "subscriptTail @" => (k_here; (with_reducible show wpAny _ _ (subscriptTail _ _ (Value.ref _) (Value.str _ _)) _ _ _); k_dflt (refine' vals_item2 ?Vq53 ?Nq53 ?uq53 ?zq53 ?aq53 ?bq53 ?_ ?sq53 ?gq53; (case Vq53 => assumption); (case Nq53 => k_asm); (case uq53 => first | exact sub10 | exact sub9 | exact sub8 | exact sub7 | exact sub6 | exact sub5 | exact sub4 | exact sub3 | exact sub2 | exact sub1 | exact sub_rfl); (case zq53 => assumption); (case aq53 => assumption); (case bq53 => assumption); (case sq53 => with_unfolding_all rfl); (case gq53 => kmk_pure)); intro z9 t9 hz9 hy9)
  k_with "compareOp NotIn str ref @" => (k_here; (with_reducible show wpAny _ _ (compareOp CmpOp.NotIn (Value.str _ _) (Value.ref _)) _ _ _); k_dflt (refine' vals_notin ?Vq54 ?Nq54 ?uq54 ?_; (case Vq54 => assumption); (case Nq54 => k_asm); (case uq54 => first | exact sub10 | exact sub9 | exact sub8 | exact sub7 | exact sub6 | exact sub5 | exact sub4 | exact sub3 | exact sub2 | exact sub1 | exact sub_rfl)))
  k_with "call ref @" => (k_here; (with_reducible show wpAny _ _ (call (Value.ref 31) _) _ _ _); k_dflt (refine' CtS.use c_signal ?k1q55 ?k2q55 ?k3q55 ?k4q55 ?k5q55 ?kKq55 ?kdq55 ?kuq55 ?_; (case k1q55 => k_asm); (case k2q55 => k_asm); (case k3q55 => k_asm); (case k4q55 => k_asm); (case k5q55 => k_asm); (case kKq55 => first | exact rfl | assumption); (case kdq55 => ktr_room); (case kuq55 => ktr_units)); intro e9 tp9 D9 h9 tk9 F9 N9 hne9; (try dsimp only); (try k_sweep))
  k_with "exec Raise some none @" => (k_here; (with_reducible show wpAny _ _ (exec (Stmt.Raise (some _) none _) _) _ _ _); k_dflt (refine raise_eval rfl ?_))
  k_with "RaiseAt @" => (k_here; k_dflt (refine' raise_at ?k1q57 ?k2q57 ?k3q57 ?_; (case k1q57 => k_asm); (case k2q57 => k_asm); (case k3q57 => k_asm)))
  k_with "leaving ref @" => (k_here; k_dflt (refine' leave_sigS ?k1q58 ?k2q58 ?k3q58 ?k4q58 ?k5q58 ?_; (case k2q58 => k_asm); (case k3q58 => k_asm); (case k1q58 => assumption); (case k4q58 => assumption); (case k5q58 => first | exact sub1 | exact sub2 | exact sub3 | exact sub_rfl)); intro h9 R9 U9; (try dsimp only at R9 U9 ⊢))
  intro w mean mg mb news dv dp un gd cn cs a ccd cl outer A₀ base h₀ L m s Q E hB F0 X0 N0 hTop hk hV hp hd1 hu hret hraise
  obtain ⟨hp1, hp2, hp3⟩ := hp
  refine wpAny_call ?_
  k_dflt cell_enter
  k_with "size" => exact ⟨by omega, by omega, by omega⟩
  k_with "exec While Compare cons nil" => k_while (fun _ f a => 0 ≤ a ∧ a ≤ x.length ∧ (f.length : Int) ≤ 3 * a ∧ subP x vx vy f a) (fun _ f a => x.length - a.toNat) "found" "at"
  k_with "state" => first
    | exact ⟨by decide, by omega, by decide +kernel, sub_start x vx vy⟩
    | exact sub_plain (by with_reducible assumption) (by with_reducible assumption) (by with_reducible assumption) (by with_reducible assumption) (by with_reducible assumption)
    | exact sub_dollar (by with_reducible assumption) (by with_reducible assumption) (by with_reducible assumption) (by with_reducible assumption) (by with_reducible assumption) (by with_reducible assumption)
    | exact sub_brace (by with_reducible assumption) (by with_reducible assumption) (by with_reducible assumption) (by with_reducible assumption) (by with_reducible assumption) (by with_reducible assumption) (by with_reducible assumption) (by with_reducible assumption) (by with_reducible assumption) (by with_reducible assumption)
    | exact sub_word (by with_reducible assumption) (by with_reducible assumption) (by with_reducible assumption) (by with_reducible assumption) (by with_reducible assumption) (by with_reducible assumption) (by with_reducible assumption) (by with_reducible assumption) (by with_reducible assumption)
  k_steps
  · (rename RaisedS _ _ _ _ _ _ _ _ _ => rX); (rename Heap.UpToSlots _ _ => uX); exact hraise (sub_none1 (by with_reducible assumption) (by with_reducible assumption) (by with_reducible assumption) (by with_reducible assumption) (by with_reducible assumption) (by with_reducible assumption) (by with_reducible assumption)) _ _ _ _ _ _ (by assumption) rX uX
  · (rename RaisedS _ _ _ _ _ _ _ _ _ => rX); (rename Heap.UpToSlots _ _ => uX); exact hraise (sub_none2 (by with_reducible assumption) (by with_reducible assumption) (by with_reducible assumption) (by with_reducible assumption) (by with_reducible assumption) (by with_reducible assumption) (by with_reducible assumption)) _ _ _ _ _ _ (by assumption) rX uX
  · (rename RaisedS _ _ _ _ _ _ _ _ _ => rX); (rename Heap.UpToSlots _ _ => uX); exact hraise (sub_none3 (by with_reducible assumption) (by with_reducible assumption) (by with_reducible assumption) (by with_reducible assumption) (by with_reducible assumption) (by with_reducible assumption) (by with_reducible assumption)) _ _ _ _ _ _ (by assumption) rX uX
  · (rename Fr _ _ _ _ => fX); (rename News _ _ _ _ => nX); rw [sub_tail']; exact hret _ _ _ _ (sub_end (by with_reducible assumption) (by with_reducible assumption) (by with_reducible assumption)) fX nX
end Mine
end
section
open PySem PySem.W PyProof.Rows PySem.Calls
namespace Mine
noncomputable def textSet : List Nat := [97, 47, 36, 88, 123, 125, 89, 126]
noncomputable def TextOk (l : List Nat) : Prop := ∀ c ∈ l, c ∈ textSet
theorem bad_sign : ∀ e ∈ textSet, bad [e] = isSign e := by decide +kernel
theorem bad_nil : bad [] = false := by decide +kernel
theorem bad_take {q : List Nat} (h : TextOk q) : bad (q.take 1) = true → q.takeWhile isSign ≠ [] := by
  cases q with
  | nil => intro e; rw [List.take_nil, bad_nil] at e; cases e
  | cons e r =>
    intro hb
    have h1 := bad_sign e (h e (by simp))
    rw [List.take_succ_cons, List.take_zero, h1] at hb
    rw [List.takeWhile_cons, if_pos hb]
    simp
theorem good_take {q : List Nat} (h : TextOk q) : bad (q.take 1) = false → q.takeWhile isSign = [] := by
  cases q with
  | nil => intro _; rfl
  | cons e r =>
    intro hb
    have h1 := bad_sign e (h e (by simp))
    rw [List.take_succ_cons, List.take_zero, h1] at hb
    rw [List.takeWhile_cons, if_neg (by rw [hb]; simp)]
theorem sub_wri (vx vy : List Nat) : ∀ (n : Nat) (l : List Nat), l.length ≤ n → TextOk l → sub vx vy l = wri vx vy l
  | _, [], _, _ => by rw [sub, wri]
  | 0, _ :: _, h, _ => by simp at h
  | n + 1, c :: r, h, ht => by
    have hr : TextOk r := fun d hd => ht d (by simp [hd])
    have hlr : r.length ≤ n := by simpa using h
    have ih : ∀ k, sub vx vy (r.drop k) = wri vx vy (r.drop k) := fun k => sub_wri vx vy n (r.drop k) (by rw [List.length_drop]; omega) fun d hd => hr d (List.mem_of_mem_drop hd)
    rw [sub, wri]
    by_cases hc : c ≠ 36
    · rw [if_pos hc, if_pos hc]
      have := ih 0
      rw [List.drop_zero] at this
      rw [this]
    · rw [if_neg hc, if_neg hc]
      cases r with
      | nil => simp [wordOf, owns, pick, vgetL]
      | cons d q =>
        have hq : TextOk q := fun e he => hr e (by simp [he])
        have hd := hr d (by simp)
        simp only [textSet, List.mem_cons, List.not_mem_nil, or_false] at hd
        rcases hd with rfl | rfl | rfl | rfl | rfl | rfl | rfl | rfl
        · have hw : wordOf (97 :: q) = [] := by simp [wordOf, owns, pick]
          rw [hw]
          simp [vgetL, isSign, List.takeWhile_cons]
        · have hw : wordOf (47 :: q) = [] := by simp [wordOf, owns, pick]
          rw [hw]
          simp [vgetL, isSign, List.takeWhile_cons]
        · have hw : wordOf (36 :: q) = [36] := by simp [wordOf, owns, pick]
          rw [hw, if_pos (by simp), if_neg (by simp), ih 1]
          simp [valOf]
        · have hw : wordOf (88 :: q) = [88] := by simp [wordOf, owns, pick]
          rw [hw, if_neg (by simp), if_neg (by simp)]
          have e1 : (88 :: q).takeWhile isSign = 88 :: q.takeWhile isSign := by rw [List.takeWhile_cons, if_pos (by decide)]
          rw [e1]
          cases hb : bad (q.take 1) with
          | true =>
            have hne := bad_take hq hb
            rw [if_pos (.inr ⟨.inl rfl, by simpa using hb⟩)]
            cases e2 : q.takeWhile isSign with
            | nil => exact absurd e2 hne
            | cons a b => simp [vgetL]
          | false =>
            rw [good_take hq hb, if_neg (by simp [hb])]
            have := ih 1
            simp only [List.drop_succ_cons, List.drop_zero] at this
            simp [vgetL, valOf, this]
        · have e1 : List.take 1 (123 :: q) = [123] := rfl
          rw [if_neg (by simp), if_pos e1]
          simp only [List.drop_succ_cons, List.drop_zero]
          by_cases hX : q.take 2 = [88, 125]
          · have hw : wordOf (123 :: q) = [123, 88, 125] := by simp [wordOf, owns, pick, hX]
            obtain ⟨q', rfl⟩ : ∃ q', q = 88 :: 125 :: q' := ⟨q.drop 2, by (conv => lhs; rw [← List.take_append_drop 2 q, hX]); rfl⟩
            rw [hw, if_neg (by simp)]
            have := ih 3
            simp only [List.drop_succ_cons, List.drop_zero] at this
            simp [vgetL, valOf, isSign, List.takeWhile_cons, this]
          · by_cases hY : q.take 2 = [89, 125]
            · have hw : wordOf (123 :: q) = [123, 89, 125] := by simp [wordOf, owns, pick, hY]
              obtain ⟨q', rfl⟩ : ∃ q', q = 89 :: 125 :: q' := ⟨q.drop 2, by (conv => lhs; rw [← List.take_append_drop 2 q, hY]); rfl⟩
              rw [hw, if_neg (by simp)]
              have := ih 3
              simp only [List.drop_succ_cons, List.drop_zero] at this
              simp [vgetL, valOf, isSign, List.takeWhile_cons, this]
            · have hw : wordOf (123 :: q) = [] := by simp [wordOf, owns, pick, hX, hY]
              rw [hw, if_pos (.inl rfl)]
              cases e2 : vgetL vx vy (q.takeWhile isSign) with
              | none => rfl
              | some z =>
                dsimp only
                rw [if_neg]
                intro hcl
                have hw2 : q.takeWhile isSign = [88] ∨ q.takeWhile isSign = [89] := by
                  unfold vgetL at e2
                  split at e2
                  · rename_i h1; exact .inl h1
                  · split at e2
                    · rename_i h1; exact .inr h1
                    · cases e2
                have h3 := takeWhile_take isSign q
                rcases hw2 with h4 | h4 <;> rw [h4] at h3 hcl
                · refine hX ?_
                  cases q with
                  | nil => cases h3
                  | cons a b =>
                    simp only [List.length_singleton, List.take_succ_cons, List.take_zero, List.cons.injEq, and_true] at h3
                    subst h3
                    have h5 : b.take 1 = [125] := by simpa [Nat.add_comm] using hcl
                    rw [List.take_succ_cons, h5]
                · refine hY ?_
                  cases q with
                  | nil => cases h3
                  | cons a b =>
                    simp only [List.length_singleton, List.take_succ_cons, List.take_zero, List.cons.injEq, and_true] at h3
                    subst h3
                    have h5 : b.take 1 = [125] := by simpa [Nat.add_comm] using hcl
                    rw [List.take_succ_cons, h5]
        · have hw : wordOf (125 :: q) = [] := by simp [wordOf, owns, pick]
          rw [hw]
          simp [vgetL, isSign, List.takeWhile_cons]
        · have hw : wordOf (89 :: q) = [89] := by simp [wordOf, owns, pick]
          rw [hw, if_neg (by simp), if_neg (by simp)]
          have e1 : (89 :: q).takeWhile isSign = 89 :: q.takeWhile isSign := by rw [List.takeWhile_cons, if_pos (by decide)]
          rw [e1]
          cases hb : bad (q.take 1) with
          | true =>
            have hne := bad_take hq hb
            rw [if_pos (.inr ⟨.inr rfl, by simpa using hb⟩)]
            cases e2 : q.takeWhile isSign with
            | nil => exact absurd e2 hne
            | cons a b => simp [vgetL]
          | false =>
            rw [good_take hq hb, if_neg (by simp [hb])]
            have := ih 1
            simp only [List.drop_succ_cons, List.drop_zero] at this
            simp [vgetL, valOf, this]
        · have hw : wordOf (126 :: q) = [] := by simp [wordOf, owns, pick]
          rw [hw]
          simp [vgetL, isSign, List.takeWhile_cons]
end Mine
end
section
open PySem PySem.W PyProof.Rows
namespace Mine
-- (4) directory and last part
theorem dir_tw {l : List Nat} (h : 47 ∈ l) : dirPart l ++ tw 47 l = l := by
  obtain ⟨a, ha⟩ := split_last h
  unfold dirPart
  have hl : l.length = a.length + 1 + (tw 47 l).length := by
    have := congrArg List.length ha
    simp at this
    omega
  have e : l.length - (tw 47 l).length = (a ++ [47]).length := by simp; omega
  rw [e]
  have e2 : l = (a ++ [47]) ++ tw 47 l := by simpa using ha
  conv => lhs; arg 1; rw [e2]
  rw [List.take_left' rfl]
  exact e2.symm
theorem dir_none' {l : List Nat} (h : 47 ∉ l) : dirPart l = [] := by
  unfold dirPart
  rw [tw_free h, Nat.sub_self, List.take_zero]
theorem dir_tw' (l : List Nat) : dirPart l ++ tw 47 l = l := by
  by_cases h : 47 ∈ l
  · exact dir_tw h
  · rw [dir_none' h, tw_free h, List.nil_append]
theorem dir_end (l : List Nat) : dirPart l = [] ∨ ∃ a, dirPart l = a ++ [47] := by
  by_cases h : 47 ∈ l
  · obtain ⟨a, ha⟩ := split_last h
    refine .inr ⟨a, ?_⟩
    have h2 := dir_tw h
    have h3 : dirPart l ++ tw 47 l = (a ++ [47]) ++ tw 47 l := by rw [h2]; simpa using ha
    exact List.append_cancel_right h3
  · exact .inl (dir_none' h)
theorem tw_dir (l r : List Nat) (hr : 47 ∉ r) : tw 47 (dirPart l ++ r) = r := by
  rcases dir_end l with h | ⟨a, h⟩ <;> rw [h]
  · rw [List.nil_append, tw_free hr]
  · have : a ++ [47] ++ r = a ++ 47 :: r := by simp
    rw [this, tw_cut _ _ _ hr]
-- (5) the mark
theorem bare_pre (l : List Nat) : l.take (withoutVer l).length = withoutVer l := by
  have h := verStart_le (tw 47 l)
  have e : withoutVer l = (dirPart l ++ tw 47 l).take ((dirPart l).length + verStart (tw 47 l)) := by
    unfold withoutVer
    rw [List.take_append, List.take_of_length_le (l := dirPart l) (by omega)]
    congr 2
    omega
  have e2 := e
  rw [dir_tw'] at e2
  have hlen : (withoutVer l).length ≤ (dirPart l).length + verStart (tw 47 l) := by
    rw [e2, List.length_take]; omega
  have hl2 : (withoutVer l).length = min ((dirPart l).length + verStart (tw 47 l)) l.length := by rw [e2, List.length_take]
  rw [hl2, ← List.take_eq_take_min]
  exact e2.symm
theorem bare_mark (l : List Nat) : withoutVer l ++ l.drop (withoutVer l).length = l := by
  conv => lhs; arg 1; rw [← bare_pre l]
  exact List.take_append_drop _ _
theorem mark_is (l : List Nat) : l.drop (withoutVer l).length = (tw 47 l).drop (verStart (tw 47 l)) := by
  have h1 := bare_mark l
  have h2 : withoutVer l ++ (tw 47 l).drop (verStart (tw 47 l)) = l := by
    unfold withoutVer
    rw [List.append_assoc, List.take_append_drop, dir_tw']
  exact List.append_cancel_left (h1.trans h2.symm)
theorem mark_back (l : List Nat) : isBackup l = decide (l.drop (withoutVer l).length ≠ []) := by
  rw [mark_is]
  unfold isBackup
  rw [decide_eq_decide]
  constructor
  · intro h e
    have := congrArg List.length e
    rw [List.length_drop, List.length_nil] at this
    omega
  · intro h
    have := List.length_pos_iff.mpr h
    rw [List.length_drop] at this
    omega
theorem ver_tilde {l : List Nat} (h : verStart l < l.length) : l[l.length - 1]? = some 126 := by
  unfold verStart at h
  split at h
  · omega
  · rename_i h1
    by_cases h2 : l[l.length - 1]? = some 126
    · exact h2
    · exact absurd (.inr h2) h1
theorem mark_end {l : List Nat} (h : l.drop (withoutVer l).length ≠ []) : (l.drop (withoutVer l).length).drop ((l.drop (withoutVer l).length).length - 1) = [126] := by
  have hp := List.length_pos_iff.mpr h
  rw [mark_is] at *
  rw [List.length_drop] at hp
  have h1 := ver_tilde (l := tw 47 l) (by omega)
  rw [List.drop_drop, List.length_drop]
  have e : verStart (tw 47 l) + ((tw 47 l).length - verStart (tw 47 l) - 1) = (tw 47 l).length - 1 := by omega
  rw [e]
  have hlt : (tw 47 l).length - 1 < (tw 47 l).length := by omega
  rw [List.drop_eq_getElem_cons hlt]
  rw [List.getElem?_eq_getElem hlt] at h1
  have e2 : (tw 47 l).length - 1 + 1 = (tw 47 l).length := by omega
  rw [e2, List.drop_length, Option.some.inj h1]
-- (6) the extension
theorem tw_free_sub {l r : List Nat} (h : 47 ∉ l) (hr : ∀ c ∈ r, c ∈ l) : 47 ∉ r := fun hm => h (hr _ hm)
theorem wv_last {l : List Nat} (h : 47 ∉ l) : withoutVer l = l.take (verStart l) := by
  unfold withoutVer
  rw [tw_free h, dir_none' h, List.nil_append]
theorem own_eq (l : List Nat) : extOwn l = (tw 47 l).take (verStart (tw 47 l)) := wv_last (tw_not_mem 47 l)
theorem bare_own (l : List Nat) : withoutVer l = dirPart l ++ extOwn l := by rw [own_eq]; rfl
theorem ext_parts {l : List Nat} (h : ¬ extStart (extOwn l) < 0) : withoutExt l ++ [46] ++ extension l = withoutVer l ∧ 46 ∉ extension l ∧ 47 ∉ extension l := by
  have hE : extStart (extOwn l) = ((extOwn l).length : Int) - 1 - (tw 46 (extOwn l)).length := by
    unfold extStart at h ⊢
    split
    · rfl
    · rename_i h1
      rw [if_neg h1] at h
      exact absurd h (by decide)
  have hge : 0 ≤ extStart (extOwn l) := by omega
  have hm : 46 ∈ extOwn l := by
    by_cases hm : 46 ∈ extOwn l
    · exact hm
    · rw [tw_free hm] at hE
      omega
  obtain ⟨a, ha⟩ := split_last hm
  have hlen := congrArg List.length ha
  rw [List.length_append, List.length_cons] at hlen
  have e1 : (extStart (extOwn l)).toNat = a.length := by omega
  have e2 : (extStart (extOwn l) + 1).toNat = a.length + 1 := by omega
  have e3 : extension l = tw 46 (extOwn l) := by
    unfold extension
    rw [e2]
    conv => lhs; rw [ha]
    have : a ++ 46 :: tw 46 (extOwn l) = (a ++ [46]) ++ tw 46 (extOwn l) := by simp
    rw [this, List.drop_left' (by simp)]
  refine ⟨?_, ?_, ?_⟩
  · unfold withoutExt
    rw [e1, e3, bare_own]
    conv => rhs; rw [ha]
    conv => lhs; arg 1; arg 1; arg 2; rw [ha]
    rw [List.take_left' rfl]
    simp
  · rw [e3]; exact tw_not_mem 46 _
  · rw [e3]
    intro hc
    have h1 : 47 ∈ extOwn l := by rw [ha]; simp [hc]
    rw [own_eq] at h1
    exact tw_not_mem 47 l (List.mem_of_mem_take h1)
-- (7) numbered names
theorem figs_dig {k : Int} (h0 : 1 ≤ k) (h1 : k ≤ 1000) : ∀ c ∈ figs k, isDig c = true := List.all_eq_true.mp (figs_k h0 h1).2.2.2.2.1
theorem figs_ne {k : Int} (h0 : 1 ≤ k) (h1 : k ≤ 1000) : 1 ≤ (figs k).length := (figs_k h0 h1).2.1
theorem mark_free {k : Int} (h0 : 1 ≤ k) (h1 : k ≤ 1000) : 47 ∉ [46, 126] ++ figs k ++ [126] := by
  have h := figs_dig h0 h1
  intro hm
  simp only [List.mem_append, List.mem_cons, List.not_mem_nil, or_false] at hm
  rcases hm with (hm | hm) | hm
  · rcases hm with hm | hm <;> cases hm
  · have := h _ hm
    revert this
    decide
  · cases hm
theorem tw_numbered (l : List Nat) {k : Int} (h0 : 1 ≤ k) (h1 : k ≤ 1000) : tw 47 (numbered l k) = numbered (tw 47 l) k := by
  have hf := mark_free h0 h1
  have e : numbered l k = l ++ ([46, 126] ++ figs k ++ [126]) := by simp [numbered]
  have e2 : numbered (tw 47 l) k = tw 47 l ++ ([46, 126] ++ figs k ++ [126]) := by simp [numbered]
  rw [e, e2, tw_append _ _ _ hf]
-- (8) the mark of a number is found again
theorem scan_digs : ∀ (r : List Nat) (a : List Nat), (∀ c ∈ r, isDig c = true) → ∀ b, scanBack (a ++ r ++ b) (a.length + r.length) = scanBack (a ++ r ++ b) a.length
  | r, a, h, b => by
    have key : ∀ n, n ≤ r.length → scanBack (a ++ r ++ b) (a.length + n) = scanBack (a ++ r ++ b) a.length := by
      intro n
      induction n with
      | zero => intro _; rfl
      | succ n ih =>
        intro hn
        have hlt : n < r.length := by omega
        have e : (a ++ r ++ b).getD (a.length + n) 0 = r[n] := by
          rw [List.getD_eq_getElem?_getD, List.append_assoc, List.getElem?_append_right (by omega)]
          have : a.length + n - a.length = n := by omega
          rw [this, List.getElem?_append_left hlt, List.getElem?_eq_getElem hlt]
          rfl
        have e2 : a.length + (n + 1) = (a.length + n) + 1 := by omega
        rw [e2, scanBack, e, h _ (List.getElem_mem hlt), if_pos rfl]
        exact ih (by omega)
    exact key r.length (Nat.le_refl _)
theorem ver_numbered {l : List Nat} {k : Int} (hl : 1 ≤ l.length) (h0 : 1 ≤ k) (h1 : k ≤ 1000) : verStart (numbered l k) = l.length := by
  have hd := figs_dig h0 h1
  have hn := figs_ne h0 h1
  have e : numbered l k = (l ++ [46, 126]) ++ figs k ++ [126] := by simp [numbered]
  have hlen : (numbered l k).length = l.length + 2 + (figs k).length + 1 := by rw [e]; simp; omega
  have hsz : (numbered l k).length - 1 = (l ++ [46, 126]).length + (figs k).length := by rw [hlen]; simp
  have hlast : (numbered l k)[(numbered l k).length - 1]? = some 126 := by
    rw [hsz, e, List.getElem?_append_right (by simp; omega)]
    have : (l ++ [46, 126]).length + (figs k).length - (l ++ [46, 126] ++ figs k).length = 0 := by simp; omega
    rw [this]
    rfl
  have hscan : scanBack (numbered l k) ((numbered l k).length - 1) = l.length + 2 := by
    rw [hsz, e, scan_digs _ _ hd]
    have e3 : (l ++ [46, 126]).length = (l.length + 1) + 1 := by simp
    rw [e3, scanBack]
    have e4 : (l ++ [46, 126] ++ figs k ++ [126]).getD (l.length + 1) 0 = 126 := by
      rw [List.getD_eq_getElem?_getD, List.append_assoc, List.append_assoc, List.getElem?_append_right (by omega)]
      have : l.length + 1 - l.length = 1 := by omega
      rw [this]
      rfl
    rw [e4, if_neg (by decide)]
  unfold verStart
  rw [if_neg (by rw [hlast]; simp; omega), hscan, if_pos]
  · omega
  · refine ⟨by omega, by omega, ?_⟩
    have : l.length + 2 - 2 = l.length := by omega
    rw [this, e, List.append_assoc, List.append_assoc, List.drop_left' rfl]
    rfl
theorem without_numbered {l : List Nat} {k : Int} (hf : 47 ∉ l) (hl : 1 ≤ l.length) (h0 : 1 ≤ k) (h1 : k ≤ 1000) : withoutVer (numbered l k) = l := by
  have hfr : 47 ∉ numbered l k := by
    have e : numbered l k = l ++ ([46, 126] ++ figs k ++ [126]) := by simp [numbered]
    rw [e]
    intro hm
    rcases List.mem_append.mp hm with h | h
    · exact hf h
    · exact mark_free h0 h1 h
  rw [wv_last hfr, ver_numbered hl h0 h1]
  have e : numbered l k = l ++ ([46, 126] ++ figs k ++ [126]) := by simp [numbered]
  rw [e, List.take_left' rfl]
theorem asDir_end (l : List Nat) : (asDir l).drop ((asDir l).length - 1) = [47] := by
  unfold asDir
  split
  · rfl
  · split
    · rename_i h; exact h
    · simp
-- (9), (10) locks and auto saves
theorem lock_last (l : List Nat) : tw 47 (dirPart l ++ [46, 35] ++ tw 47 l) = [46, 35] ++ tw 47 l := by
  rw [List.append_assoc]
  refine tw_dir l _ ?_
  have := tw_not_mem 47 l
  simpa using this
theorem auto_last (l : List Nat) : tw 47 (dirPart l ++ 35 :: tw 47 l ++ [35]) = 35 :: tw 47 l ++ [35] := by
  rw [List.append_assoc]
  refine tw_dir l _ ?_
  have := tw_not_mem 47 l
  simpa using this
theorem auto_is {l : List Nat} (hl : 1 ≤ l.length) : isAuto (35 :: l ++ [35]) = true := by
  unfold isAuto
  have h1 : 2 < (35 :: l ++ [35]).length := by simp; omega
  have h2 : (35 :: l ++ [35]).drop ((35 :: l ++ [35]).length - 1) = [35] := by
    have e : (35 :: l ++ [35]).length - 1 = (35 :: l).length := by simp
    rw [e, List.drop_left' rfl]
  rw [h2]
  simp
  omega
end Mine
end
section
open PySem PySem.W PyProof.Rows PySem.Calls
namespace Mine
section
variable {w : World} {mean : ExcName → Option Value} {mg mb : Str → Option Value} {news news2 : List (Addr × Obj)} {dv : Addr} {dp un : Nat} {gd : Option (List Code)} {cn : Str} {cs : Scope} {a : Addr} {ccd : Value} {cl : List (Str × Addr)} {outer : List Env} {A₀ : Around} {base h₀ : Heap} {L : Addr} {m : Str → Option Value} {s : Shared} {Q E : Value → Shared → Prop} {x : Str} {t : Tok} {vx vy : Str}
theorem sub_use_none (B : Below A₀ base outer h₀) (F : Fr h₀ L s.heap m) (X : (hd.heap_1 w.params).In h₀) (N : News h₀ L s.heap news) (T : Top hd.view_1 (looseW hd.view_1 []) mean mg mb h₀) (hk : cs.kind = .function) (V : Vals PySem.Challenge.rw_np0038_01.row.prog w news2 dv vx vy) (hsub : ∀ p ∈ news2, p ∈ news) (hp : x.length ≤ 100 ∧ vx.length ≤ 3 ∧ vy.length ≤ 3)
    (hd : dp + 30 < recursionLimit) (hu : un + 8 * 30 < cLine) (ho : sub (Lx vx) (Lx vy) (Lx x) = none)
    (hraise : ∀ (e tp : Addr) (vs : List Value) (G h' : Heap) (tk' : Nat), Fr h₀ L G m → RaisedS base G (envX cn cs L a ccd cl :: outer) e (.ref 31) tp vs news h' → G.UpToSlots h' → E (.ref e) { s with heap := h', toks := tk' }) :
    wpAny (model PySem.Challenge.rw_np0038_01.row.prog w) (ktrTop dp un gd cn cs L a ccd cl outer) (call (.ref 153) [.str x t, .ref dv]) Q E s :=
  c_sub x t vx vy w mean mg mb news dv dp un gd cn cs a ccd cl outer A₀ base h₀ L m s Q E B F X N T hk (V.sub hsub) hp hd hu (fun R _ _ _ h => by rw [ho] at h; cases h) fun _ => hraise
theorem sub_use_some {R : List Nat} (B : Below A₀ base outer h₀) (F : Fr h₀ L s.heap m) (X : (hd.heap_1 w.params).In h₀) (N : News h₀ L s.heap news) (T : Top hd.view_1 (looseW hd.view_1 []) mean mg mb h₀) (hk : cs.kind = .function) (V : Vals PySem.Challenge.rw_np0038_01.row.prog w news2 dv vx vy) (hsub : ∀ p ∈ news2, p ∈ news) (hp : x.length ≤ 100 ∧ vx.length ≤ 3 ∧ vy.length ≤ 3)
    (hd : dp + 30 < recursionLimit) (hu : un + 8 * 30 < cLine) (ho : sub (Lx vx) (Lx vy) (Lx x) = some R)
    (hret : ∀ (t : Tok) (h' : Heap) (tk' : Nat), Fr h₀ L h' m → News h₀ L h' news → Q (.str (S (R.drop (rs R R.length))) t) { s with heap := h', toks := tk' }) :
    wpAny (model PySem.Challenge.rw_np0038_01.row.prog w) (ktrTop dp un gd cn cs L a ccd cl outer) (call (.ref 153) [.str x t, .ref dv]) Q E s :=
  c_sub x t vx vy w mean mg mb news dv dp un gd cn cs a ccd cl outer A₀ base h₀ L m s Q E B F X N T hk (V.sub hsub) hp hd hu (fun R' t' h' tk' h => by rw [ho] at h; cases h; exact hret t' h' tk') (fun h => by rw [ho] at h; cases h)
theorem wri_use_none (B : Below A₀ base outer h₀) (F : Fr h₀ L s.heap m) (X : (hd.heap_1 w.params).In h₀) (N : News h₀ L s.heap news) (T : Top hd.view_1 (looseW hd.view_1 []) mean mg mb h₀) (hk : cs.kind = .function) (V : Vals PySem.Challenge.rw_np0038_01.row.prog w news2 dv vx vy) (hsub : ∀ p ∈ news2, p ∈ news) (hp : x.length ≤ 100 ∧ vx.length ≤ 3 ∧ vy.length ≤ 3)
    (hd : dp + 20 < recursionLimit) (hu : un + 8 * 20 < cLine) (ho : wri (Lx vx) (Lx vy) (Lx x) = none)
    (hret : ∀ (h' : Heap) (tk' : Nat), Fr h₀ L h' m → News h₀ L h' news → Q .none { s with heap := h', toks := tk' }) :
    wpAny (model PySem.Challenge.rw_np0038_01.row.prog w) (ktrTop dp un gd cn cs L a ccd cl outer) (call (.ref 237) [.str x t, .ref dv]) Q E s :=
  CtV.use (c_written x t vx vy) B F X N T hk V hsub hp hd hu fun t' h' tk' F' N' => by rw [ho]; exact hret h' tk' F' N'
theorem wri_use_some {R : List Nat} (B : Below A₀ base outer h₀) (F : Fr h₀ L s.heap m) (X : (hd.heap_1 w.params).In h₀) (N : News h₀ L s.heap news) (T : Top hd.view_1 (looseW hd.view_1 []) mean mg mb h₀) (hk : cs.kind = .function) (V : Vals PySem.Challenge.rw_np0038_01.row.prog w news2 dv vx vy) (hsub : ∀ p ∈ news2, p ∈ news) (hp : x.length ≤ 100 ∧ vx.length ≤ 3 ∧ vy.length ≤ 3)
    (hd : dp + 20 < recursionLimit) (hu : un + 8 * 20 < cLine) (ho : wri (Lx vx) (Lx vy) (Lx x) = some R)
    (hret : ∀ (t : Tok) (h' : Heap) (tk' : Nat), Fr h₀ L h' m → News h₀ L h' news → Q (.str (S (R.drop (rs R R.length))) t) { s with heap := h', toks := tk' }) :
    wpAny (model PySem.Challenge.rw_np0038_01.row.prog w) (ktrTop dp un gd cn cs L a ccd cl outer) (call (.ref 237) [.str x t, .ref dv]) Q E s :=
  CtV.use (c_written x t vx vy) B F X N T hk V hsub hp hd hu fun t' h' tk' F' N' => by rw [ho]; exact hret t' h' tk' F' N'
end
end Mine
end
section
open PySem PySem.W PyProof.Rows
namespace Mine
/-- steps that stand in a told name -/
noncomputable def Clean (L : List (List Nat)) : Prop := ∀ p ∈ L, p ≠ [] ∧ p ≠ [46] ∧ p ≠ [46, 46] ∧ 47 ∉ p
theorem stepF_clean {f : List (List Nat)} {p : List Nat} (hf : Clean f) (hp : 47 ∉ p) : Clean (stepF f p) := by
  unfold stepF
  split
  · exact fun q hq => hf q ((List.dropLast_sublist f).subset hq)
  · split
    · exact hf
    · rename_i h1 h2
      intro q hq
      rcases List.mem_append.mp hq with h | h
      · exact hf q h
      · rw [List.mem_singleton.mp h]
        exact ⟨fun e => h2 (.inl e), fun e => h2 (.inr e), h1, hp⟩
theorem foldl_clean : ∀ (ps f : List (List Nat)), Clean f → (∀ p ∈ ps, 47 ∉ p) → Clean (ps.foldl stepF f)
  | [], f, hf, _ => hf
  | p :: r, f, hf, h => foldl_clean r (stepF f p) (stepF_clean hf (h p (by simp))) fun q hq => h q (by simp [hq])
theorem steps_clean (l : List Nat) : Clean (stepsL (cut 47 l)) := foldl_clean _ [] (fun _ h => absurd h List.not_mem_nil) (cut_free 47 l)
theorem stepF_one {f : List (List Nat)} {p : List Nat} (h : p ≠ [] ∧ p ≠ [46] ∧ p ≠ [46, 46] ∧ 47 ∉ p) : stepF f p = f ++ [p] := by
  unfold stepF
  rw [if_neg h.2.2.1, if_neg (fun e => e.elim h.1 h.2.1)]
theorem stepF_nil (f : List (List Nat)) : stepF f [] = f := by
  unfold stepF
  rw [if_neg (by decide), if_pos (.inl rfl)]
theorem stepF_dot (f : List (List Nat)) : stepF f [46] = f := by
  unfold stepF
  rw [if_neg (by decide), if_pos (.inr rfl)]
theorem foldl_id : ∀ (L f : List (List Nat)), Clean L → L.foldl stepF f = f ++ L
  | [], f, _ => by simp
  | p :: r, f, h => by
    rw [List.foldl_cons, stepF_one (h p (by simp)), foldl_id r _ (fun q hq => h q (by simp [hq]))]
    simp
theorem glue_cons (c : Nat) (p : List Nat) {r : List (List Nat)} (h : r ≠ []) : glue c (p :: r) = p ++ c :: glue c r := by
  cases r with
  | nil => exact absurd rfl h
  | cons q r => rfl
theorem cut_joined {L : List (List Nat)} (h : Clean L) : stepsL (cut 47 (joined L)) = L := by
  unfold joined stepsL
  have e : cut 47 (47 :: glue 47 L) = [] :: cut 47 (glue 47 L) := by simpa using cut_append 47 [] (glue 47 L) (by simp)
  rw [e, List.foldl_cons, stepF_nil]
  by_cases hL : L = []
  · subst hL
    simp [glue, cut, stepF_nil]
  · rw [glue_cut 47 L hL (fun p hp => (h p hp).2.2.2), foldl_id L [] h, List.nil_append]
theorem cut_joined' {L : List (List Nat)} (h : Clean L) : stepsL (cut 47 (joined L ++ [47])) = L := by
  have e : cut 47 (joined L ++ [47]) = cut 47 (joined L) ++ [[]] := by
    have := cut_app 47 (joined L) []
    simpa [cut] using this
  have h2 := cut_joined h
  unfold stepsL at *
  rw [e, List.foldl_append, h2, List.foldl_cons, stepF_nil, List.foldl_nil]
-- the end of a joined name
theorem glue_end {L : List (List Nat)} (h : Clean L) (hL : L ≠ []) : glue 47 L ≠ [] ∧ (glue 47 L).getLast? ≠ some 47 := by
  induction L with
  | nil => exact absurd rfl hL
  | cons p r ih =>
    have hp := h p (by simp)
    by_cases hr : r = []
    · subst hr
      refine ⟨hp.1, ?_⟩
      show p.getLast? ≠ some 47
      intro e
      exact hp.2.2.2 (List.mem_of_getLast? e)
    · obtain ⟨i1, i2⟩ := ih (fun q hq => h q (by simp [hq])) hr
      rw [glue_cons 47 p hr]
      refine ⟨by simp, ?_⟩
      have e2 : p ++ 47 :: glue 47 r = (p ++ [47]) ++ glue 47 r := by simp
      rw [e2, List.getLast?_append]
      cases e : (glue 47 r).getLast? with
      | none => exact absurd (List.getLast?_eq_none_iff.mp e) i1
      | some c =>
        rw [e] at i2
        simpa using i2
theorem endsIn {l : List Nat} : l.drop (l.length - 1) = [47] ↔ l.getLast? = some 47 := by
  rcases List.eq_nil_or_concat l with rfl | ⟨a, c, rfl⟩
  · simp
  · simp
theorem joined_end {L : List (List Nat)} (h : Clean L) (hL : L ≠ []) : ¬ (joined L).drop ((joined L).length - 1) = [47] := by
  obtain ⟨h1, h2⟩ := glue_end h hL
  rw [endsIn]
  unfold joined
  cases e : glue 47 L with
  | nil => exact absurd e h1
  | cons a b =>
    rw [e] at h2
    rw [List.getLast?_cons_cons]
    exact h2
theorem joined_nil : joined [] = [47] := rfl
theorem joined_ne {L : List (List Nat)} (h : Clean L) : joined L ≠ [47] ↔ L ≠ [] := by
  constructor
  · rintro h1 rfl; exact h1 rfl
  · intro h1 h2
    obtain ⟨h3, _⟩ := glue_end h h1
    unfold joined at h2
    simp only [List.cons.injEq, true_and] at h2
    exact h3 h2
-- as_file of a told name
theorem stripEnd_stop {l : List Nat} {n : Nat} (h : l[n - 1]? ≠ some 47) : stripEnd l n = n := by
  match n with
  | 0 => rfl
  | 1 => rfl
  | n + 2 =>
    unfold stripEnd
    rw [if_neg (by simpa using h)]
theorem asFile_id {l : List Nat} (h : ¬ l.drop (l.length - 1) = [47]) : asFile l = l := by
  unfold asFile
  rw [stripEnd_stop, List.take_length]
  intro e
  rw [endsIn, List.getLast?_eq_getElem?] at h
  exact h e
theorem asFile_snoc {l : List Nat} (hl : 1 ≤ l.length) (h : ¬ l.drop (l.length - 1) = [47]) : asFile (l ++ [47]) = l := by
  unfold asFile
  obtain ⟨n, hn⟩ : ∃ n, l.length = n + 1 := ⟨l.length - 1, by omega⟩
  have e : (l ++ [47]).length = n + 2 := by simp [hn]
  rw [e, stripEnd]
  have e1 : (l ++ [47])[n + 1]? = some 47 := by rw [← hn]; simp
  rw [if_pos e1, stripEnd_stop, ← hn, List.take_left' rfl]
  intro e2
  rw [endsIn, List.getLast?_eq_getElem?, hn] at h
  refine h ?_
  rw [Nat.add_sub_cancel] at e2 ⊢
  rw [List.getElem?_append_left (by omega)] at e2
  exact e2
theorem asFile_root : asFile [47] = [47] := by decide
/-- a told name: its steps, with or without a slash behind -/
noncomputable def Told (L : List (List Nat)) (t : List Nat) : Prop := Clean L ∧ (t = joined L ∨ (L ≠ [] ∧ t = joined L ++ [47]))
theorem told_file {L : List (List Nat)} {t : List Nat} (h : Told L t) : asFile t = joined L := by
  obtain ⟨hc, rfl | ⟨hL, rfl⟩⟩ := h
  · by_cases hL : L = []
    · subst hL; exact asFile_root
    · exact asFile_id (joined_end hc hL)
  · exact asFile_snoc (by unfold joined; simp) (joined_end hc hL)
theorem told_abs {L : List (List Nat)} {t : List Nat} (h : Told L t) : t.take 1 = [47] := by
  obtain ⟨hc, rfl | ⟨hL, rfl⟩⟩ := h <;> rfl
theorem told_steps {L : List (List Nat)} {t : List Nat} (h : Told L t) : stepsL (cut 47 t) = L := by
  obtain ⟨hc, rfl | ⟨hL, rfl⟩⟩ := h
  · exact cut_joined hc
  · exact cut_joined' hc
theorem abs_home {t h : List Nat} (ha : t.take 1 = [47]) : withHome t h = t := by
  unfold withHome
  rw [if_neg]
  intro e
  cases t with
  | nil => cases ha
  | cons c r =>
    have hc : c = 47 := by simpa using ha
    subst hc
    rcases e with e | e <;> simp at e
theorem abs_whole {t d h : List Nat} (ha : t.take 1 = [47]) : wholeOf t d h = t := by
  unfold wholeOf
  rw [abs_home ha, if_neg (by simpa using ha)]
theorem expL_told (n d h : List Nat) : Told (stepsL (cut 47 (wholeOf n d h))) (expL n d h) := by
  have hc := steps_clean (wholeOf n d h)
  refine ⟨hc, ?_⟩
  unfold expL
  split
  · rename_i h1
    exact .inr ⟨(joined_ne hc).mp h1.1, rfl⟩
  · exact .inl rfl
/-- the slash behind -/
theorem expL_is (n d h : List Nat) : expL n d h = if stepsL (cut 47 (wholeOf n d h)) ≠ [] ∧ n.drop (n.length - 1) = [47] then joined (stepsL (cut 47 (wholeOf n d h))) ++ [47] else joined (stepsL (cut 47 (wholeOf n d h))) := by
  have hc := steps_clean (wholeOf n d h)
  unfold expL
  simp only [joined_ne hc]
theorem told_end {L : List (List Nat)} {t : List Nat} (h : Told L t) : t = if L ≠ [] ∧ t.drop (t.length - 1) = [47] then joined L ++ [47] else joined L := by
  obtain ⟨hc, rfl | ⟨hL, rfl⟩⟩ := h
  · rw [if_neg]
    rintro ⟨h1, h2⟩
    exact joined_end hc h1 h2
  · rw [if_pos ⟨hL, by simp⟩]
/-- expanded leaves a told name as it is -/
theorem exp_same {L : List (List Nat)} {t : List Nat} (h : Told L t) (d home : List Nat) : expL t d home = t := by
  rw [expL_is, abs_whole (told_abs h), told_steps h]
  exact (told_end h).symm
theorem told_last {L : List (List Nat)} {t : List Nat} (n : List Nat) (h : Told L t) (e : t = if L ≠ [] ∧ n.drop (n.length - 1) = [47] then joined L ++ [47] else joined L) (ht : t ≠ [47]) : (t.drop (t.length - 1) = [47]) = (n.drop (n.length - 1) = [47]) := by
  have hL : L ≠ [] := by
    rintro rfl
    refine ht ?_
    rw [e, if_neg (by simp)]
    rfl
  by_cases hn : n.drop (n.length - 1) = [47]
  · rw [if_pos ⟨hL, hn⟩] at e
    rw [e]
    simp [hn]
  · rw [if_neg (fun h => hn h.2)] at e
    have := joined_end h.1 hL
    rw [← e] at this
    simp [this, hn]
end Mine
end
section
open PySem PySem.W PyProof.Rows
namespace Mine
/-- a directory or a home: the root, or a name that begins with a slash and ends with none -/
noncomputable def RootOk (d : List Nat) : Prop := d = [47] ∨ (d.take 1 = [47] ∧ ¬ d.drop (d.length - 1) = [47])
theorem root_take {d : List Nat} (h : RootOk d) : d.take 1 = [47] := by
  rcases h with rfl | h
  · rfl
  · exact h.1
theorem base_root {d : List Nat} (h : RootOk d) (home : List Nat) : baseOf d home = d := by
  unfold baseOf
  rw [abs_home (root_take h), if_neg (by simpa using root_take h)]
theorem steps_app (a b : List Nat) : stepsL (cut 47 (a ++ 47 :: b)) = (cut 47 b).foldl stepF (stepsL (cut 47 a)) := by
  unfold stepsL
  rw [cut_app, List.foldl_append]
theorem steps_root : stepsL (cut 47 [47]) = [] := by decide
theorem base_steps {d : List Nat} (h : RootOk d) (home r : List Nat) : stepsL (cut 47 (asDir (baseOf d home) ++ r)) = (cut 47 r).foldl stepF (stepsL (cut 47 d)) := by
  rw [base_root h]
  rcases h with rfl | ⟨h1, h2⟩
  · have e : asDir [47] ++ r = [] ++ 47 :: r := by simp [asDir]
    rw [e, steps_app, steps_root]
    rfl
  · have hne : d ≠ [] := by rintro rfl; cases h1
    have e : asDir d ++ r = d ++ 47 :: r := by
      unfold asDir
      rw [if_neg hne, if_neg h2]
      simp
    rw [e, steps_app]
/-- the law's stack and expanded tell the same steps -/
theorem same_steps {d h : List Nat} (n : List Nat) (hd : RootOk d) (hh : RootOk h) : stepsL (cut 47 (lawWhole n d h)) = stepsL (cut 47 (wholeOf n d h)) := by
  by_cases h1 : n.take 1 = [47]
  · rw [abs_whole h1]
    unfold lawWhole
    rw [if_neg (by simpa using h1)]
  · by_cases h2 : n = [126] ∨ n.take 2 = [126, 47]
    · have e1 : lawWhole n d h = h ++ n.drop 1 := by unfold lawWhole; rw [if_pos h1, if_pos h2]
      rw [e1]
      rcases hh with rfl | ⟨h3, h4⟩
      · have e2 : withHome n [47] = 47 :: n.drop 2 := by
          unfold withHome
          rw [if_pos h2, asFile_root, if_neg (by simp)]
        have e3 : wholeOf n d [47] = 47 :: n.drop 2 := by
          unfold wholeOf
          rw [e2, if_neg (by simp)]
        rw [e3]
        rcases h2 with rfl | h2
        · rfl
        · obtain ⟨r, rfl⟩ : ∃ r, n = 126 :: 47 :: r := ⟨n.drop 2, by (conv => lhs; rw [← List.take_append_drop 2 n, h2]); rfl⟩
          show stepsL (cut 47 ([47] ++ 47 :: r)) = stepsL (cut 47 ([] ++ 47 :: r))
          rw [steps_app, steps_app, steps_root]
          rfl
      · have hne : asFile h ≠ [47] := by
          rw [asFile_id h4]
          rintro rfl
          exact h4 rfl
        have e2 : withHome n h = h ++ n.drop 1 := by
          unfold withHome
          rw [if_pos h2, if_pos hne, asFile_id h4]
        have e3 : wholeOf n d h = h ++ n.drop 1 := by
          unfold wholeOf
          rw [e2, if_neg]
          cases h with
          | nil => cases h3
          | cons a b => simpa using h3
        rw [e3]
    · have e1 : lawWhole n d h = d ++ 47 :: n := by unfold lawWhole; rw [if_pos h1, if_neg h2]
      have e2 : withHome n h = n := by unfold withHome; rw [if_neg h2]
      have e3 : wholeOf n d h = asDir (baseOf d h) ++ n := by
        unfold wholeOf
        rw [e2, if_pos h1]
      rw [e1, e3, steps_app, base_steps hd]
-- no step is a tilde
noncomputable def NoT (L : List (List Nat)) : Prop := ∀ p ∈ L, p ≠ [126]
theorem stepF_mem {f : List (List Nat)} {p q : List Nat} (h : q ∈ stepF f p) : q ∈ f ∨ q = p := by
  unfold stepF at h
  split at h
  · exact .inl ((List.dropLast_sublist f).subset h)
  · split at h
    · exact .inl h
    · rcases List.mem_append.mp h with h | h
      · exact .inl h
      · exact .inr (List.mem_singleton.mp h)
theorem foldl_mem : ∀ (ps f : List (List Nat)) {q : List Nat}, q ∈ ps.foldl stepF f → q ∈ f ∨ q ∈ ps
  | [], _, _, h => .inl h
  | p :: r, f, q, h => by
    rcases foldl_mem r (stepF f p) h with h | h
    · rcases stepF_mem h with h | h
      · exact .inl h
      · exact .inr (by simp [h])
    · exact .inr (by simp [h])
theorem steps_mem {ps : List (List Nat)} {q : List Nat} (h : q ∈ stepsL ps) : q ∈ ps := by
  rcases foldl_mem ps [] h with h | h
  · exact absurd h List.not_mem_nil
  · exact h
theorem cut_head {n : List Nat} {p : List Nat} {ps : List (List Nat)} (h : cut 47 n = p :: ps) : n = p ∨ ∃ s, n = p ++ 47 :: s := by
  have := cut_glue 47 n
  rw [h] at this
  cases ps with
  | nil => exact .inl this.symm
  | cons q r => exact .inr ⟨glue 47 (q :: r), this.symm⟩
theorem noT_whole {n d h : List Nat} (hn : TailOk n) (hd : NoT (cut 47 d)) (hh : NoT (cut 47 h)) : NoT (stepsL (cut 47 (lawWhole n d h))) := by
  intro p hp
  have hp := steps_mem hp
  unfold lawWhole at hp
  split at hp
  · split at hp
    · rename_i h1 h2
      rcases h2 with rfl | h2
      · rw [show h ++ List.drop 1 [126] = h by simp] at hp
        exact hh p hp
      · obtain ⟨r, rfl⟩ : ∃ r, n = 126 :: 47 :: r := ⟨n.drop 2, by (conv => lhs; rw [← List.take_append_drop 2 n, h2]); rfl⟩
        rw [show h ++ List.drop 1 (126 :: 47 :: r) = h ++ 47 :: r by simp, cut_app] at hp
        rcases List.mem_append.mp hp with hp | hp
        · exact hh p hp
        · have e := cut_append 47 [126] r (by simp)
          unfold TailOk at hn
          rw [show (126 :: 47 :: r : List Nat) = [126] ++ 47 :: r by simp, e] at hn
          exact hn p hp
    · rename_i h1 h2
      rw [cut_app] at hp
      rcases List.mem_append.mp hp with hp | hp
      · exact hd p hp
      · cases e : cut 47 n with
        | nil => exact absurd e (cut_ne 47 n)
        | cons q r =>
          rw [e] at hp
          rcases List.mem_cons.mp hp with rfl | hp
          · rintro rfl
            rcases cut_head e with h3 | ⟨s, h3⟩
            · exact h2 (.inl h3)
            · exact h2 (.inr (by rw [h3]; rfl))
          · unfold TailOk at hn
            rw [e] at hn
            exact hn p hp
  · rename_i h1
    have h1' : n.take 1 = [47] := by simpa using h1
    obtain ⟨r, rfl⟩ : ∃ r, n = 47 :: r := ⟨n.drop 1, by (conv => lhs; rw [← List.take_append_drop 1 n, h1']); rfl⟩
    have e : cut 47 (47 :: r) = [] :: cut 47 r := by simpa using cut_append 47 [] r (by simp)
    unfold TailOk at hn
    rw [e] at hp hn
    rcases List.mem_cons.mp hp with rfl | hp
    · simp
    · exact hn p hp
-- relative
noncomputable def NE (L : List (List Nat)) : Prop := ∀ p ∈ L, p ≠ [] ∧ 47 ∉ p
theorem glue_end' {L : List (List Nat)} (h : NE L) (hL : L ≠ []) : glue 47 L ≠ [] ∧ (glue 47 L).getLast? ≠ some 47 := by
  induction L with
  | nil => exact absurd rfl hL
  | cons p r ih =>
    have hp := h p (by simp)
    by_cases hr : r = []
    · subst hr
      refine ⟨hp.1, ?_⟩
      show p.getLast? ≠ some 47
      intro e
      exact hp.2 (List.mem_of_getLast? e)
    · obtain ⟨i1, i2⟩ := ih (fun q hq => h q (by simp [hq])) hr
      rw [glue_cons 47 p hr]
      refine ⟨by simp, ?_⟩
      have e2 : p ++ 47 :: glue 47 r = (p ++ [47]) ++ glue 47 r := by simp
      rw [e2, List.getLast?_append]
      cases e : (glue 47 r).getLast? with
      | none => exact absurd (List.getLast?_eq_none_iff.mp e) i1
      | some c =>
        rw [e] at i2
        simpa using i2
theorem common_take : ∀ a b : List (List Nat), a.take (common a b) = b.take (common a b)
  | [], _ => by simp [common]
  | _ :: _, [] => by simp [common]
  | a :: as, b :: bs => by
    unfold common
    split
    · rename_i e
      rw [List.take_succ_cons, List.take_succ_cons, e, common_take as bs]
    · simp
theorem foldl_dd : ∀ (j : Nat) (f : List (List Nat)), (List.replicate j [46, 46]).foldl stepF f = f.take (f.length - j)
  | 0, f => by simp
  | j + 1, f => by
    rw [List.replicate_succ, List.foldl_cons, foldl_dd j]
    have e : stepF f [46, 46] = f.dropLast := by unfold stepF; rw [if_pos rfl]
    rw [e, List.length_dropLast, List.dropLast_eq_take, List.take_take, Nat.min_eq_left (Nat.sub_le _ _), Nat.sub_sub, Nat.add_comm]
theorem rel_foldl {L dL : List (List Nat)} (hL : Clean L) : (relSteps L dL).foldl stepF dL = L := by
  have h1 := common_le L dL
  have h2 := common_take L dL
  unfold relSteps
  rw [List.foldl_append, foldl_dd, foldl_id _ _ (fun p hp => hL p (List.mem_of_mem_drop hp))]
  have e : dL.length - (dL.length - common L dL) = common L dL := by omega
  rw [e, ← h2, List.take_append_drop]
theorem rel_ne {L dL : List (List Nat)} (hL : Clean L) : NE (relSteps L dL) := by
  intro p hp
  unfold relSteps at hp
  rcases List.mem_append.mp hp with hp | hp
  · rw [List.eq_of_mem_replicate hp]
    decide
  · have := hL p (List.mem_of_mem_drop hp)
    exact ⟨this.1, this.2.2.2⟩
theorem rel_noT {L dL : List (List Nat)} (hL : NoT L) : NoT (relSteps L dL) := by
  intro p hp
  unfold relSteps at hp
  rcases List.mem_append.mp hp with hp | hp
  · rw [List.eq_of_mem_replicate hp]
    decide
  · exact hL p (List.mem_of_mem_drop hp)
/-- a name that is no home's and not absolute, expanded -/
theorem exp_plain {r d : List Nat} (home : List Nat) (h1 : ¬ (r = [126] ∨ r.take 2 = [126, 47])) (h2 : ¬ r.take 1 = [47]) (hd : RootOk d) {L : List (List Nat)} (hs : (cut 47 r).foldl stepF (stepsL (cut 47 d)) = L) :
    expL r d home = if L ≠ [] ∧ r.drop (r.length - 1) = [47] then joined L ++ [47] else joined L := by
  have e1 : withHome r home = r := by unfold withHome; rw [if_neg h1]
  have e2 : wholeOf r d home = asDir (baseOf d home) ++ r := by unfold wholeOf; rw [e1, if_pos h2]
  rw [expL_is, e2, base_steps hd, hs]
theorem cut_heads {r : List Nat} {R : List (List Nat)} (hc : cut 47 r = R) (hR : NE R) (hne : R ≠ []) (ht : NoT R) (hn : ∀ p ps, cut 47 r = p :: ps → p ∈ R) : ¬ (r = [126] ∨ r.take 2 = [126, 47]) ∧ ¬ r.take 1 = [47] := by
  refine ⟨?_, ?_⟩
  · rintro (rfl | h)
    · exact ht [126] (hn [126] [] (by decide)) rfl
    · obtain ⟨s, rfl⟩ : ∃ s, r = 126 :: 47 :: s := ⟨r.drop 2, by (conv => lhs; rw [← List.take_append_drop 2 r, h]); rfl⟩
      exact ht [126] (hn [126] (cut 47 s) (cut_append 47 [126] s (by simp))) rfl
  · intro h
    obtain ⟨s, rfl⟩ : ∃ s, r = 47 :: s := ⟨r.drop 1, by (conv => lhs; rw [← List.take_append_drop 1 r, h]); rfl⟩
    exact (hR [] (hn [] (cut 47 s) (by simpa using cut_append 47 [] s (by simp)))).1 rfl
theorem rel_back {L : List (List Nat)} {t d : List Nat} (home : List Nat) (ht : Told L t) (hT : NoT L) (hd : RootOk d) : expL (relL t d home) d home = t := by
  have hdT := expL_told d [47] home
  rw [abs_whole (root_take hd)] at hdT
  have hds := told_steps hdT
  have hts := told_steps ht
  have e0 : expL t [47] home = t := exp_same ht _ _
  have hf := rel_foldl (dL := stepsL (cut 47 d)) ht.1
  have hNE := rel_ne (dL := stepsL (cut 47 d)) ht.1
  have hNT := rel_noT (dL := stepsL (cut 47 d)) hT
  have hend := told_end ht
  unfold relL
  rw [e0]
  unfold relW
  rw [hts, hds]
  by_cases hR : relSteps L (stepsL (cut 47 d)) = []
  · rw [hR] at hf ⊢
    rw [if_pos (by rfl)]
    have hf' : stepsL (cut 47 d) = L := hf
    split
    · rename_i h1
      rw [exp_plain home (by decide) (by decide) hd (L := L) (by rw [hf']; simp [cut, stepF_nil, stepF_dot])]
      rw [h1] at hend
      rw [hend]
      simp
    · rename_i h1
      rw [exp_plain home (by decide) (by decide) hd (L := L) (by rw [hf']; simp [cut, stepF_dot])]
      rw [hend, if_neg (by simp), if_neg (fun h => h1 h.2)]
  · obtain ⟨g1, g2⟩ := glue_end' hNE hR
    have hcut : cut 47 (glue 47 (relSteps L (stepsL (cut 47 d)))) = relSteps L (stepsL (cut 47 d)) := glue_cut 47 _ hR fun p hp => (hNE p hp).2
    rw [if_neg g1]
    split
    · rename_i h1
      have hcut2 : cut 47 (glue 47 (relSteps L (stepsL (cut 47 d))) ++ [47]) = relSteps L (stepsL (cut 47 d)) ++ [[]] := by
        have := cut_app 47 (glue 47 (relSteps L (stepsL (cut 47 d)))) []
        rw [hcut] at this
        simpa [cut] using this
      have hn : ∀ p ps, cut 47 (glue 47 (relSteps L (stepsL (cut 47 d))) ++ [47]) = p :: ps → p ∈ relSteps L (stepsL (cut 47 d)) := by
        intro p ps h
        rw [hcut2] at h
        cases e : relSteps L (stepsL (cut 47 d)) with
        | nil => exact absurd e hR
        | cons a b => rw [e] at h; cases h; simp
      have hh : ¬ (glue 47 (relSteps L (stepsL (cut 47 d))) ++ [47] = [126] ∨ (glue 47 (relSteps L (stepsL (cut 47 d))) ++ [47]).take 2 = [126, 47]) ∧ ¬ (glue 47 (relSteps L (stepsL (cut 47 d))) ++ [47]).take 1 = [47] := by
        refine ⟨?_, ?_⟩
        · rintro (h | h)
          · exact hNT [126] (hn [126] [] (by rw [h]; decide)) rfl
          · obtain ⟨s, hs⟩ : ∃ s, glue 47 (relSteps L (stepsL (cut 47 d))) ++ [47] = 126 :: 47 :: s := ⟨(glue 47 (relSteps L (stepsL (cut 47 d))) ++ [47]).drop 2, by (conv => lhs; rw [← List.take_append_drop 2 (glue 47 (relSteps L (stepsL (cut 47 d))) ++ [47]), h]); rfl⟩
            exact hNT [126] (hn [126] (cut 47 s) (by rw [hs]; exact cut_append 47 [126] s (by simp))) rfl
        · intro h
          obtain ⟨s, hs⟩ : ∃ s, glue 47 (relSteps L (stepsL (cut 47 d))) ++ [47] = 47 :: s := ⟨(glue 47 (relSteps L (stepsL (cut 47 d))) ++ [47]).drop 1, by (conv => lhs; rw [← List.take_append_drop 1 (glue 47 (relSteps L (stepsL (cut 47 d))) ++ [47]), h]); rfl⟩
          exact (hNE [] (hn [] (cut 47 s) (by rw [hs]; simpa using cut_append 47 [] s (by simp)))).1 rfl
      rw [exp_plain home hh.1 hh.2 hd (L := L) (by rw [hcut2, List.foldl_append, hf]; simp [stepF_nil])]
      have hLne : L ≠ [] := by
        rintro rfl
        refine h1.2 ?_
        rw [hend, if_neg (by simp)]
        rfl
      rw [if_pos ⟨hLne, by simp⟩, hend, if_pos ⟨hLne, h1.1⟩]
    · rename_i h1
      have hh := cut_heads hcut hNE hR hNT (fun p ps h => by rw [hcut] at h; rw [h]; simp)
      rw [exp_plain home hh.1 hh.2 hd (L := L) (by rw [hcut, hf])]
      rw [if_neg (fun h => by rw [endsIn] at h; exact g2 h.2), hend, if_neg]
      rintro ⟨h2, h3⟩
      refine h1 ⟨h3, ?_⟩
      rintro rfl
      have : L = [] := by rw [← hts]; decide
      exact h2 this
-- abbreviated
theorem abbr_back {L : List (List Nat)} {t h : List Nat} (d : List Nat) (ht : Told L t) (hh : RootOk h) : expL (abbr t h) d h = t := by
  have hend := told_end ht
  have hts := told_steps ht
  unfold abbr
  rcases hh with rfl | ⟨h3, h4⟩
  · rw [asFile_root, if_pos rfl]
    exact exp_same ht _ _
  · have hne : h ≠ [47] := by rintro rfl; exact h4 rfl
    rw [asFile_id h4, if_neg hne]
    have whole : ∀ n : List Nat, (n = [126] ∨ n.take 2 = [126, 47]) → h ++ n.drop 1 = t → wholeOf n d h = t := by
      intro n hn e
      have e2 : withHome n h = t := by
        unfold withHome
        rw [if_pos hn, asFile_id h4, if_pos hne, e]
      unfold wholeOf
      rw [e2, if_neg (by simpa using told_abs ht)]
    split
    · rename_i h5
      rw [expL_is, whole [126] (.inl rfl) (by rw [h5]; simp), hts, hend, if_neg (by simp), if_neg (fun z => h4 (by rw [← h5]; exact z.2))]
    · split
      · rename_i h5 h6
        have e : t = h ++ 47 :: t.drop (h.length + 1) := by
          conv => lhs; rw [← List.take_append_drop (h.length + 1) t, h6]
          simp
        have e2 : t.drop h.length = 47 :: t.drop (h.length + 1) := by
          conv => lhs; rw [e]
          rw [List.drop_left' rfl]
        rw [e2, expL_is, whole (126 :: 47 :: t.drop (h.length + 1)) (.inr rfl) (by simpa using e.symm), hts]
        have e3 : ((126 :: 47 :: t.drop (h.length + 1)).drop ((126 :: 47 :: t.drop (h.length + 1)).length - 1) = [47]) ↔ t.drop (t.length - 1) = [47] := by
          rw [endsIn, endsIn]
          conv => rhs; rw [e]
          rw [List.getLast?_append]
          have : (126 :: 47 :: t.drop (h.length + 1)).getLast? = (47 :: t.drop (h.length + 1)).getLast? := by rw [List.getLast?_cons_cons]
          rw [this]
          cases q : (47 :: t.drop (h.length + 1)).getLast? with
          | none => simp at q
          | some c => simp
        rw [hend]
        by_cases hc : L ≠ [] ∧ t.drop (t.length - 1) = [47]
        · rw [if_pos ⟨hc.1, by have := e3.mpr hc.2; rw [← hend] at *; exact this⟩, if_pos hc]
        · rw [if_neg (fun z => hc ⟨z.1, by have z2 := z.2; rw [← hend] at z2; exact e3.mp z2⟩), if_neg hc]
      · exact exp_same ht _ _
end Mine
end
section
open PySem PySem.W PyProof.Rows PySem.Calls
namespace Mine
section
variable {w : World} {mean : ExcName → Option Value} {mg mb : Str → Option Value} {news : List (Addr × Obj)} {dp un : Nat} {gd : Option (List Code)} {cn : Str} {cs : Scope} {a : Addr} {ccd : Value} {cl : List (Str × Addr)} {outer : List Env} {A₀ : Around} {base h₀ : Heap} {L : Addr} {m : Str → Option Value} {s : Shared} {Q E : Value → Shared → Prop} {x : Str} {t : Tok}
theorem dir_use (B : Below A₀ base outer h₀) (F : Fr h₀ L s.heap m) (X : (hd.heap_1 w.params).In h₀) (N : News h₀ L s.heap news) (T : Top hd.view_1 (looseW hd.view_1 []) mean mg mb h₀) (hk : cs.kind = .function) (hp : x.length ≤ 10000)
    (hd : dp + 1 < recursionLimit) (hu : un + 8 * 1 < cLine) (h1 : 47 ∉ Lx x → ∀ (h' : Heap) (tk' : Nat), Fr h₀ L h' m → News h₀ L h' news → Q .none { s with heap := h', toks := tk' })
    (h2 : 47 ∈ Lx x → (S (dirPart (Lx x))).length ≤ x.length → ∀ (t : Tok) (h' : Heap) (tk' : Nat), Fr h₀ L h' m → News h₀ L h' news → Q (.str (S (dirPart (Lx x))) t) { s with heap := h', toks := tk' }) :
    wpAny (model PySem.Challenge.rw_np0038_01.row.prog w) (ktrTop dp un gd cn cs L a ccd cl outer) (call (.ref 48) [.str x t]) Q E s := by
  by_cases h : 47 ∈ Lx x
  · exact Ct.useF (cf_directory_part_some x t) B F X N T hk ⟨hp, h⟩ hd hu fun hl => h2 h hl
  · exact Ct.useF (cf_directory_part_none x t) B F X N T hk ⟨hp, h⟩ hd hu fun _ _ => h1 h
theorem ext_use (B : Below A₀ base outer h₀) (F : Fr h₀ L s.heap m) (X : (hd.heap_1 w.params).In h₀) (N : News h₀ L s.heap news) (T : Top hd.view_1 (looseW hd.view_1 []) mean mg mb h₀) (hk : cs.kind = .function) (hp : x.length ≤ 10000)
    (hd : dp + 3 < recursionLimit) (hu : un + 8 * 3 < cLine) (h1 : extStart (extOwn (Lx x)) < 0 → ∀ (h' : Heap) (tk' : Nat), Fr h₀ L h' m → News h₀ L h' news → Q .none { s with heap := h', toks := tk' })
    (h2 : ¬ extStart (extOwn (Lx x)) < 0 → ∀ (t : Tok) (h' : Heap) (tk' : Nat), Fr h₀ L h' m → News h₀ L h' news → Q (.str (S (extension (Lx x))) t) { s with heap := h', toks := tk' }) :
    wpAny (model PySem.Challenge.rw_np0038_01.row.prog w) (ktrTop dp un gd cn cs L a ccd cl outer) (call (.ref 97) [.str x t]) Q E s := by
  by_cases h : extStart (extOwn (Lx x)) < 0
  · exact Ct.useF (cf_extension_none x t) B F X N T hk ⟨hp, h⟩ hd hu fun _ _ => h1 h
  · exact Ct.useF (cf_extension_some x t) B F X N T hk ⟨hp, h⟩ hd hu fun _ => h2 h
end
noncomputable def ExtV (x : Str) (v : Value) : Prop := (extStart (extOwn (Lx x)) < 0 ∧ v = .none) ∨ (¬ extStart (extOwn (Lx x)) < 0 ∧ (S (extension (Lx x))).length ≤ x.length ∧ ∃ t, v = .str (S (extension (Lx x))) t)
theorem extV_none {x : Str} (h : extStart (extOwn (Lx x)) < 0) : ExtV x .none := .inl ⟨h, rfl⟩
theorem extV_some {x : Str} {t : Tok} (h : ¬ extStart (extOwn (Lx x)) < 0) : ExtV x (.str (S (extension (Lx x))) t) := .inr ⟨h, by rw [len_S, ← len_L]; exact extension_len (Lx x), t, rfl⟩
-- what the law draws
noncomputable def DirOk (d : Str) : Prop := RootOk (Lx d) ∧ NoT (cut 47 (Lx d)) ∧ d.length ≤ 10
theorem dir_ok : ∀ x ∈ [Str.ofString "", Str.ofString "a", Str.ofString "a/b.c", Str.ofString "q/r"], DirOk (Str.ofString "/" ++ x) := by
  have h : ∀ x ∈ [Str.ofString "", Str.ofString "a", Str.ofString "a/b.c", Str.ofString "q/r"], ((Lx (Str.ofString "/" ++ x)) = [47] ∨ ((Lx (Str.ofString "/" ++ x)).take 1 = [47] ∧ ¬ (Lx (Str.ofString "/" ++ x)).drop ((Lx (Str.ofString "/" ++ x)).length - 1) = [47])) ∧ (∀ p ∈ cut 47 (Lx (Str.ofString "/" ++ x)), p ≠ [126]) ∧ (Str.ofString "/" ++ x).length ≤ 10 := by decide +kernel
  exact h
theorem home_ok : ∀ x ∈ [Str.ofString "/h", Str.ofString "/h/u", Str.ofString "/"], DirOk x := by
  have h : ∀ x ∈ [Str.ofString "/h", Str.ofString "/h/u", Str.ofString "/"], ((Lx x) = [47] ∨ ((Lx x).take 1 = [47] ∧ ¬ (Lx x).drop ((Lx x).length - 1) = [47])) ∧ (∀ p ∈ cut 47 (Lx x), p ≠ [126]) ∧ x.length ≤ 10 := by decide +kernel
  exact h
theorem piece_ok : ∀ x ∈ [Str.ofString "a", Str.ofString "/", Str.ofString "$X", Str.ofString "${X}", Str.ofString "$$", Str.ofString "$Y", Str.ofString "~", Str.ofString "$", Str.ofString "${Y}", Str.ofString "//"], (∀ c ∈ Lx x, c ∈ textSet) ∧ x.length ≤ 4 := by decide +kernel
noncomputable def TOk (x : Str) : Prop := TextOk (Lx x)
theorem tOk_nil : TOk (Str.ofString "") := by
  have h : ∀ c ∈ Lx (Str.ofString ""), c ∈ textSet := by decide +kernel
  exact h
theorem tOk_add {x y : Str} (h : TOk x) (hy : y ∈ [Str.ofString "a", Str.ofString "/", Str.ofString "$X", Str.ofString "${X}", Str.ofString "$$", Str.ofString "$Y", Str.ofString "~", Str.ofString "$", Str.ofString "${Y}", Str.ofString "//"]) : TOk (x ++ y) := by
  unfold TOk TextOk at *
  rw [app_S, L_S]
  intro c hc
  rcases List.mem_append.mp hc with hc | hc
  · exact h c hc
  · exact (piece_ok y hy).1 c hc
theorem tOk_len {x y : Str} {n : Nat} (h : x.length ≤ n) (hy : y ∈ [Str.ofString "a", Str.ofString "/", Str.ofString "$X", Str.ofString "${X}", Str.ofString "$$", Str.ofString "$Y", Str.ofString "~", Str.ofString "$", Str.ofString "${Y}", Str.ofString "//"]) : (x ++ y).length ≤ n + 4 := by
  have := (piece_ok y hy).2
  rw [app_S, len_S, List.length_append, len_L, len_L]
  omega
theorem tOk_same {x vx vy : Str} (h : TOk x) : sub (Lx vx) (Lx vy) (Lx x) = wri (Lx vx) (Lx vy) (Lx x) := sub_wri _ _ _ _ (Nat.le_refl _) h
theorem val_len : ∀ x ∈ [Str.ofString "", Str.ofString "b", Str.ofString "/q"], x.length ≤ 3 := by decide +kernel
theorem home_w : (Str.ofString "~/w").length ≤ 3 := by decide +kernel
theorem vals_of {prog : Program} {w : World} {d : Addr} {o : Obj} {t1 t2 t3 t4 : Tok} {vx vy : Str} (hs : (d == sysModules) = false) (ho : o.IsDictOf (strKind prog w) (strPairs [(Value.str (Str.ofString "X") t1, .str vx t2), (Value.str (Str.ofString "Y") t3, .str vy t4)])) : Vals prog w [(d, o)] d vx vy :=
  ⟨⟨o, _, .head _, hs, ho, .cons (PyProof.V.Flat.str _ _) (.cons (PyProof.V.Flat.str _ _) .nil)⟩⟩
end Mine
namespace Mine
theorem law_join {x y z : Str} (h1 : x.length ≤ 1000) (h2 : y.length ≤ 1000) (h3 : z.length ≤ 1000) : tot (stepsL (cut 47 (lawWhole (Lx x) (Lx y) (Lx z)))) ≤ 1000000 := by
  have h4 := stepsL_tot (cut 47 (lawWhole (Lx x) (Lx y) (Lx z)))
  have h5 := lawWhole_len (Lx x) (Lx y) (Lx z)
  rw [cut_tot] at h4
  simp only [len_L] at h5
  omega
end Mine
end
section
open PySem PySem.W PyProof.Rows
namespace Mine
theorem app_lit (c : Nat) (l : List Nat) (z : Str) (hz : z = S [c]) : z ++ S l = S (c :: l) := by
  subst hz
  rw [app_S, L_S, L_S]
  rfl
theorem ne_no {x y : Str} (e : (x != y) = true) (h : x = y) : False := by
  subst h
  simp at e
theorem item_ends (x : Str) (h : 1 ≤ x.length) : Txt.item x (-1) = Txt.slice x (some (-1)) none := by
  have hl := len_L x
  rw [slice_last, ← item_last (l := Lx x) (by omega), S_L]
theorem dirOk_root {d : Str} (h : DirOk d) : RootOk (Lx d) := h.1
section
variable {n d h : Str}
theorem if1a (hd : DirOk d) (hh : DirOk h) (e : (S (asFile (Lx (S (expL (Lx n) (Lx d) (Lx h))))) != Str.ofString "/" ++ S (glue 47 (stepsL (cut 47 (lawWhole (Lx n) (Lx d) (Lx h)))))) = true) : False := by
  refine ne_no e ?_
  rw [L_S, told_file (expL_told _ _ _), app_lit 47 _ _ slash_lit, same_steps _ hd.1 hh.1]
  rfl
theorem if1b (e : isAbs (Lx (S (expL (Lx n) (Lx d) (Lx h)))) = false) : False := by
  rw [L_S] at e
  unfold isAbs at e
  rw [told_abs (expL_told _ _ _)] at e
  simp at e
theorem if1c {x y : List Nat} (e : (S (expL (Lx (S (expL (Lx n) (Lx d) (Lx h)))) x y) != S (expL (Lx n) (Lx d) (Lx h))) = true) : False := by
  refine ne_no e ?_
  rw [L_S, exp_same (expL_told _ _ _)]
theorem if2 (e1 : (S (expL (Lx n) (Lx d) (Lx h)) != Str.ofString "/") = true) (e2 : ((Txt.item (S (expL (Lx n) (Lx d) (Lx h))) (-1) == Str.ofString "/") != (Txt.slice n (some (-1)) none == Str.ofString "/")) = true) : False := by
  have hp : 1 ≤ (S (expL (Lx n) (Lx d) (Lx h))).length := by rw [len_S]; exact expL_pos _ _ _
  rw [item_ends _ hp, slash_lit, end_eq, end_eq, L_S] at e2
  rw [slash_lit, bne_S, L_S, decide_eq_true_eq] at e1
  have := told_last (Lx n) (expL_told (Lx n) (Lx d) (Lx h)) (expL_is _ _ _) e1
  simp [this] at e2
theorem if3 (hn : NameOk n) (hd : DirOk d) (hh : DirOk h) (e : (S (expL (Lx (S (relL (Lx (S (expL (Lx n) (Lx d) (Lx h)))) (Lx d) (Lx h)))) (Lx d) (Lx h)) != S (expL (Lx n) (Lx d) (Lx h))) = true) : False := by
  refine ne_no e ?_
  rw [L_S, L_S, rel_back (Lx h) (expL_told _ _ _) ?_ hd.1]
  rw [← same_steps _ hd.1 hh.1]
  exact noT_whole hn.1 hd.2.1 hh.2.1
theorem if4a (hm : ¬ 47 ∈ Lx n) (e : (Str.ofString "" ++ S (tw 47 (Lx n)) != n) = true) : False := by
  refine ne_no e ?_
  rw [tw_free hm, empty_lit, app_S, L_S, L_S, List.nil_append, S_L]
theorem if4b (hm : 47 ∈ Lx n) (e : (S (dirPart (Lx n)) ++ S (tw 47 (Lx n)) != n) = true) : False := by
  refine ne_no e ?_
  rw [app_S, L_S, L_S, dir_tw hm, S_L]
theorem if4c (hm : 47 ∈ Lx n) (e : (((S (dirPart (Lx n))).length : Int) != 0) = false) : False := by
  rw [len_S] at e
  have h1 := congrArg List.length (dir_tw hm)
  rcases dir_end (Lx n) with h2 | ⟨a, h2⟩
  · rw [h2, List.nil_append] at h1
    have h3 := dir_tw hm
    rw [h2, List.nil_append] at h3
    exact tw_not_mem 47 (Lx n) (by rw [h3]; exact hm)
  · rw [h2] at e
    simp at e
    omega
theorem if4d (e : (Builtin.Str.occurrences (S (tw 47 (Lx n))) (Str.ofString "/") 0 (S (tw 47 (Lx n))).length 1).isEmpty = false) : False := by
  have h1 := occ_t e
  rw [slash_lit, contains_one, L_S, decide_eq_true_eq] at h1
  exact tw_not_mem 47 _ h1
theorem mark_eq : Txt.slice n (some ((S (withoutVer (Lx n))).length : Int)) none = S ((Lx n).drop (withoutVer (Lx n)).length) := by
  rw [slice_from n (by omega), len_S]
  rfl
theorem if5a (e : (Txt.slice n none (some ((S (withoutVer (Lx n))).length : Int)) != S (withoutVer (Lx n))) = true) : False := by
  refine ne_no e ?_
  rw [slice_upto n (by omega), len_S]
  congr 1
  exact bare_pre (Lx n)
theorem if5b (h1 : (Txt.slice n (some ((S (withoutVer (Lx n))).length : Int)) none != Str.ofString "") = true) (e : (Txt.item (Txt.slice n (some ((S (withoutVer (Lx n))).length : Int)) none) (-1) != Str.ofString "~") = true) : False := by
  rw [mark_eq] at h1 e
  rw [empty_lit, bne_S, L_S, decide_eq_true_eq] at h1
  have hp : 1 ≤ (S ((Lx n).drop (withoutVer (Lx n)).length)).length := by rw [len_S]; exact List.length_pos_iff.mpr h1
  refine ne_no e ?_
  rw [item_ends _ hp, slice_last, tilde_lit, L_S, mark_end h1]
theorem if5c (e : (isBackup (Lx n) != (Txt.slice n (some ((S (withoutVer (Lx n))).length : Int)) none != Str.ofString "")) = true) : False := by
  rw [mark_eq, empty_lit, bne_S, L_S, mark_back] at e
  simp at e
theorem if6a (hm : extStart (extOwn (Lx n)) < 0) (e : (S (withoutE (Lx n)) != n) = true) : False := by
  refine ne_no e ?_
  unfold withoutE
  rw [if_pos hm, S_L]
theorem if6b (hm : ¬ extStart (extOwn (Lx n)) < 0) (e : (S (withoutE (Lx n)) ++ Str.ofString "." ++ S (extension (Lx n)) != S (withoutVer (Lx n))) = true) : False := by
  refine ne_no e ?_
  unfold withoutE
  rw [if_neg hm, app_S, app_S, L_S, L_S, L_S, dot_lit, L_S, (ext_parts hm).1]
theorem if6c (hm : ¬ extStart (extOwn (Lx n)) < 0) (e : (Builtin.Str.occurrences (S (extension (Lx n))) (Str.ofString ".") 0 (S (extension (Lx n))).length 1).isEmpty = false) : False := by
  have h1 := occ_t e
  rw [dot_lit, contains_one, L_S, decide_eq_true_eq] at h1
  exact (ext_parts hm).2.1 h1
theorem if6d (hm : ¬ extStart (extOwn (Lx n)) < 0) (e : (Builtin.Str.occurrences (S (extension (Lx n))) (Str.ofString "/") 0 (S (extension (Lx n))).length 1).isEmpty = false) : False := by
  have h1 := occ_t e
  rw [slash_lit, contains_one, L_S, decide_eq_true_eq] at h1
  exact (ext_parts hm).2.2 h1
theorem num_pre {r : Int} (h0 : 0 ≤ r) (h1 : r < 1000) (hl : n.length ≤ 60) : (S (tw 47 (Lx n))).length ≤ 10000 ∧ 1 ≤ 1 + r ∧ 1 + r ≤ 1000 ∧ Lx (S (tw 47 (Lx (S (numbered (Lx n) (1 + r)))))) = numbered (Lx (S (tw 47 (Lx n)))) (1 + r) := by
  have ht := tw_len 47 (Lx n)
  have hL := len_L n
  refine ⟨by rw [len_S]; omega, by omega, by omega, ?_⟩
  rw [L_S, L_S, L_S, tw_numbered _ (by omega) (by omega)]
theorem lit_free {z : Str} {l : List Nat} (hz : 47 ∉ Lx z) (hl : 47 ∉ l) : 47 ∉ Lx (z ++ S l) := by
  rw [app_S, L_S, L_S]
  intro h
  rcases List.mem_append.mp h with h | h
  · exact hz h
  · exact hl h
theorem lit_pos {z : Str} {l : List Nat} (hz : 1 ≤ z.length) : 1 ≤ (Lx (z ++ S l)).length := by
  rw [app_S, L_S, List.length_append, len_L]
  omega
theorem x_free : 47 ∉ Lx (Str.ofString "x") := by decide +kernel
theorem z_free : 47 ∉ Lx (Str.ofString "z") := by decide +kernel
theorem x_pos : 1 ≤ (Str.ofString "x").length := by decide +kernel
theorem z_pos : 1 ≤ (Str.ofString "z").length := by decide +kernel
theorem auto_lit : Str.ofString "#" = S [35] := by decide +kernel
theorem if8a {b : List Nat} {r : Int} (h0 : 0 ≤ r) (h1 : r < 1000) (e : (S (withoutVer (Lx (S (numbered (Lx (Str.ofString "x" ++ S (tw 47 b))) (1 + r))))) != Str.ofString "x" ++ S (tw 47 b)) = true) : False := by
  refine ne_no e ?_
  rw [L_S, without_numbered (lit_free x_free (tw_not_mem 47 _)) (lit_pos x_pos) (by omega) (by omega), S_L]
theorem asDir_pos (l : List Nat) : 1 ≤ (S (asDir l)).length := by
  rw [len_S]
  unfold asDir
  split
  · simp
  · split
    · rename_i h _
      exact List.length_pos_iff.mpr h
    · simp
theorem if8b {l : List Nat} (e : (Txt.item (S (asDir l)) (-1) != Str.ofString "/") = true) : False := by
  refine ne_no e ?_
  rw [item_ends _ (asDir_pos l), slice_last, L_S, asDir_end, slash_lit]
theorem if9a (e : (S (tw 47 (Lx (S (dirPart (Lx n) ++ [46, 35] ++ tw 47 (Lx n))))) != Str.ofString ".#" ++ S (tw 47 (Lx n))) = true) : False := by
  refine ne_no e ?_
  rw [L_S, lock_last, lock_lit, app_S, L_S, L_S]
theorem if9b (e : (S (tw 47 (Lx (S (dirPart (Lx n) ++ 35 :: tw 47 (Lx n) ++ [35])))) != Str.ofString "#" ++ S (tw 47 (Lx n)) ++ Str.ofString "#") = true) : False := by
  refine ne_no e ?_
  rw [L_S, auto_last, auto_lit, app_S, app_S, L_S, L_S, L_S]
  rfl
theorem if10a {l : List Nat} (e : isAuto (tw 47 (Lx (S (dirPart (Lx (Str.ofString "z" ++ S (tw 47 l))) ++ 35 :: tw 47 (Lx (Str.ofString "z" ++ S (tw 47 l))) ++ [35])))) = false) : False := by
  rw [L_S, auto_last, tw_free (lit_free z_free (tw_not_mem 47 _)), auto_is (lit_pos z_pos)] at e
  cases e
theorem if10b {x : List Nat} (hh : DirOk h) (e : (S (expL (Lx (S (abbr (Lx (S (expL (Lx n) (Lx d) (Lx h)))) (Lx h)))) x (Lx h)) != S (expL (Lx n) (Lx d) (Lx h))) = true) : False := by
  refine ne_no e ?_
  rw [L_S, L_S, abbr_back _ (expL_told _ _ _) hh.1]
end
end Mine
namespace Mine
theorem asDir_pos' {n : Str} (_ : NameOk n) : 1 ≤ (S (asDir (Lx (S (asFile (Lx (Str.ofString "/" ++ n))))))).length := asDir_pos _
theorem dirOk_len {d : Str} (h : DirOk d) : d.length ≤ 10 := h.2.2
end Mine
namespace Mine
theorem ne_int {k : Int} (e : (k != k) = true) : False := by simp at e
end Mine
end
section
open PySem PySem.W PyProof.Rows
set_option maxRecDepth 100000
set_option maxHeartbeats 8000000
namespace Mine
noncomputable def CtT : Prop :=
  ∀ (w : World) (mean : ExcName → Option Value) (mg mb : Str → Option Value) (news news2 : List (Addr × Obj)) (dv : Addr) (dp un : Nat) (gd : Option (List Code)) (cn : Str) (cs : Scope) (a : Addr) (ccd : Value) (A₀ : Around) (h₀ : Heap) (L : Addr) (m : Str → Option Value) (s : Shared) (Q E : Value → Shared → Prop) (x : Str) (t : Tok) (vx vy : Str),
    Below A₀ h₀ [] h₀ → Fr h₀ L s.heap m → (hd.heap_1 w.params).In h₀ → News h₀ L s.heap news → Top hd.view_1 (looseW hd.view_1 []) mean mg mb h₀ → cs.kind = .function → Vals PySem.Challenge.rw_np0038_01.row.prog w news2 dv vx vy → (∀ p ∈ news2, p ∈ news) → (x.length ≤ 100 ∧ vx.length ≤ 3 ∧ vy.length ≤ 3) →
    dp + 40 < recursionLimit → un + 8 * 40 < cLine →
    (∀ (t : Tok) (h' : Heap) (tk' : Nat), Fr h₀ L h' m → News h₀ L h' news → Q (wrV (sub (Lx vx) (Lx vy) (Lx x)) t) { s with heap := h', toks := tk' }) →
    wpAny (model PySem.Challenge.rw_np0038_01.row.prog w) (ktrTop dp un gd cn cs L a ccd [] []) (call (.ref 244) [.str x t, .ref dv]) Q E s
theorem c_told : CtT := by
  unfold CtT
  k_fill
  w_top off
  k_with_none
  k_with "ite @" => first | with_reducible refine ite_tt ?_ | with_reducible refine ite_ff ?_
  k_with "call ref @" => (k_here; (with_reducible show wpAny _ _ (call (Value.ref 153) _) _ _ _); k_dflt (refine' sub_use_none ?k1q60 ?k2q60 ?k3q60 ?k4q60 ?k5q60 ?kKq60 ?kVq60 ?kSq60 ?kpq60 ?kdq60 ?kuq60 ?koq60 ?_; (case k1q60 => k_asm); (case k2q60 => k_asm); (case k3q60 => k_asm); (case k4q60 => k_asm); (case k5q60 => k_asm); (case kKq60 => first | exact rfl | assumption); (case kVq60 => assumption); (case kSq60 => first | assumption | exact sub_rfl); (case kpq60 => assumption); (case kdq60 => ktr_room); (case kuq60 => ktr_units); (case koq60 => assumption)); intro e9 tp9 vs9 G9 h9 tk9 F9 R9 U9; (try dsimp only at R9 U9 ⊢))
  k_with "call ref @" => (k_here; (with_reducible show wpAny _ _ (call (Value.ref 153) _) _ _ _); k_dflt (refine' sub_use_some ?k1q61 ?k2q61 ?k3q61 ?k4q61 ?k5q61 ?kKq61 ?kVq61 ?kSq61 ?kpq61 ?kdq61 ?kuq61 ?koq61 ?_; (case k1q61 => k_asm); (case k2q61 => k_asm); (case k3q61 => k_asm); (case k4q61 => k_asm); (case k5q61 => k_asm); (case kKq61 => first | exact rfl | assumption); (case kVq61 => assumption); (case kSq61 => first | assumption | exact sub_rfl); (case kpq61 => assumption); (case kdq61 => ktr_room); (case kuq61 => ktr_units); (case koq61 => assumption)); intro t9 h9 tk9 F9 N9; (try dsimp only); (try k_sweep))
  k_with "noteFrame ref @" => (k_here; k_dflt (refine' caught_SO0 ?Rq62 ?Fq62 ?Kq62 ?Uq62 ?XBq62 ?TBq62 ?Dq62 ?T0q62 ?exq62 ?qq62 ?_; (case Rq62 => assumption); (case Fq62 => assumption); (case Kq62 => assumption); (case Uq62 => assumption); (case XBq62 => assumption); (case TBq62 => assumption); (case Dq62 => assumption); (case T0q62 => first | assumption | exact KtsTurn.refl); (case exq62 => k_is); (case qq62 => kts_isx); k_whole); intro h' g' n₂ T' F' N₂ G' N' K' X' P' D'; (try k_lift K'); (try k_sweep))
  intro w mean mg mb news news2 dv dp un gd cn cs a ccd A₀ h₀ L m s Q E x t vx vy
  intros
  rename_i hret
  cases ho : sub (Lx vx) (Lx vy) (Lx x) with
  | none =>
    rw [ho] at hret
    refine wpAny_call ?_
    (refine' code_defS0 ?k1 ?k2 ?k3 ?k4 ?k5 ?kA ?k6 ?k7 ?k8 ?k9 ?kB ?_ ?cK ?c2 ?c3 ?c4 ?c5; (case kA => exact rfl); (case k2 => k_asm); (case k1 => k_asm); (case k3 => k_asm); (case k4 => k_asm); (case k5 => k_asm); (case k6 => k_is); (case k7 => k_is); (case k8 => ktr_room); (case k9 => first | exact binds_K (by k_in) rfl (by k_is) rfl rfl rfl | exact BindsTo.of_eq rfl | fail "kts_go: no rule for these arguments"); (case kB => exact locs rfl); (case cK => first | assumption | exact rfl); (case c2 => exact rfl); (case c3 => exact rfl); (case c4 => exact rfl); (case c5 => decide); k_whole; intro g' L' h' FG' F' N' B' X' T' D'; (try dsimp only); (try k_lift B'); (try k_fold))
    k_steps
    (rename Fr _ _ _ _ => fX); (rename News _ _ _ _ => nX); exact hret 0 _ _ fX nX
  | some R =>
    rw [ho] at hret
    refine wpAny_call ?_
    (refine' code_defS0 ?k1 ?k2 ?k3 ?k4 ?k5 ?kA ?k6 ?k7 ?k8 ?k9 ?kB ?_ ?cK ?c2 ?c3 ?c4 ?c5; (case kA => exact rfl); (case k2 => k_asm); (case k1 => k_asm); (case k3 => k_asm); (case k4 => k_asm); (case k5 => k_asm); (case k6 => k_is); (case k7 => k_is); (case k8 => ktr_room); (case k9 => first | exact binds_K (by k_in) rfl (by k_is) rfl rfl rfl | exact BindsTo.of_eq rfl | fail "kts_go: no rule for these arguments"); (case kB => exact locs rfl); (case cK => first | assumption | exact rfl); (case c2 => exact rfl); (case c3 => exact rfl); (case c4 => exact rfl); (case c5 => decide); k_whole; intro g' L' h' FG' F' N' B' X' T' D'; (try dsimp only); (try k_lift B'); (try k_fold))
    k_steps
    (rename Fr _ _ _ _ => fX); (rename News _ _ _ _ => nX); exact hret _ _ _ fX nX
end Mine
end
section
open PySem PySem.W PyProof.Rows
set_option maxRecDepth 100000
set_option maxHeartbeats 8000000
namespace Mine
theorem text_slot {h₀ h : Heap} {L D l d d0 : Addr} {o1 o2 od o0 o3 oz : Obj} {l0 : List (Addr × Obj)} {g : Obj → List (Addr × Obj)} (N : News h₀ L h ((D, o1) :: (l, o2) :: (d, od) :: g o0)) (U : UpdF d0 oz l0 g) (hlt : ∀ p ∈ g o3, p.1 < d) : ∃ G : Obj → List (Addr × Obj), News h₀ L h (G o0) ∧ UpdF d0 o0 (G o0) G ∧ ∀ o, (d, od) ∈ G o :=
  ⟨fun o => (d, od) :: g o, fun p hp => N p (.tail _ (.tail _ hp)), UpdF.tail (ne_of_mem hlt (updF_mem (updF_again U o3))) (updF_again U o0), fun _ => .head _⟩
structure TS where
  vs : List Value
  ks : List Int
  n : Nat
  f : Str
  t : Tok
theorem one_sub {G : Obj → List (Addr × Obj)} {d : Addr} {od o : Obj} (h : ∀ o, (d, od) ∈ G o) : ∀ p ∈ [(d, od)], p ∈ G o := fun p hp => by rw [List.mem_singleton.mp hp]; exact h o
theorem told_cases {prog : Program} {w : World} {news2 : List (Addr × Obj)} {dv : Addr} {vx vy x : Str} (_V : Vals prog w news2 dv vx vy) (h : TOk x) : (wri (Lx vx) (Lx vy) (Lx x) = none ∧ sub (Lx vx) (Lx vy) (Lx x) = none) ∨ ∃ R, wri (Lx vx) (Lx vy) (Lx x) = some R ∧ sub (Lx vx) (Lx vy) (Lx x) = some R := by
  rw [tOk_same h]
  cases e : wri (Lx vx) (Lx vy) (Lx x) with
  | none => exact .inl ⟨rfl, rfl⟩
  | some R => exact .inr ⟨R, rfl, rfl⟩
section
variable {w : World} {mean : ExcName → Option Value} {mg mb : Str → Option Value} {news news2 : List (Addr × Obj)} {dv : Addr} {dp un : Nat} {gd : Option (List Code)} {cn : Str} {cs : Scope} {a : Addr} {ccd : Value} {A₀ : Around} {h₀ : Heap} {L : Addr} {m : Str → Option Value} {s : Shared} {Q E : Value → Shared → Prop} {x : Str} {t : Tok} {vx vy : Str}
theorem told_none (B : Below A₀ h₀ [] h₀) (F : Fr h₀ L s.heap m) (X : (hd.heap_1 w.params).In h₀) (N : News h₀ L s.heap news) (T : Top hd.view_1 (looseW hd.view_1 []) mean mg mb h₀) (hk : cs.kind = .function) (V : Vals PySem.Challenge.rw_np0038_01.row.prog w news2 dv vx vy) (hsub : ∀ p ∈ news2, p ∈ news) (hp : x.length ≤ 100 ∧ vx.length ≤ 3 ∧ vy.length ≤ 3)
    (hd : dp + 40 < recursionLimit) (hu : un + 8 * 40 < cLine) (ho : sub (Lx vx) (Lx vy) (Lx x) = none)
    (hret : ∀ (h' : Heap) (tk' : Nat), Fr h₀ L h' m → News h₀ L h' news → Q .none { s with heap := h', toks := tk' }) :
    wpAny (model PySem.Challenge.rw_np0038_01.row.prog w) (ktrTop dp un gd cn cs L a ccd [] []) (call (.ref 244) [.str x t, .ref dv]) Q E s :=
  c_told w mean mg mb news news2 dv dp un gd cn cs a ccd A₀ h₀ L m s Q E x t vx vy B F X N T hk V hsub hp hd hu fun t' h' tk' F' N' => by rw [ho]; exact hret h' tk' F' N'
theorem told_some {R : List Nat} (B : Below A₀ h₀ [] h₀) (F : Fr h₀ L s.heap m) (X : (hd.heap_1 w.params).In h₀) (N : News h₀ L s.heap news) (T : Top hd.view_1 (looseW hd.view_1 []) mean mg mb h₀) (hk : cs.kind = .function) (V : Vals PySem.Challenge.rw_np0038_01.row.prog w news2 dv vx vy) (hsub : ∀ p ∈ news2, p ∈ news) (hp : x.length ≤ 100 ∧ vx.length ≤ 3 ∧ vy.length ≤ 3)
    (hd : dp + 40 < recursionLimit) (hu : un + 8 * 40 < cLine) (ho : sub (Lx vx) (Lx vy) (Lx x) = some R)
    (hret : ∀ (t : Tok) (h' : Heap) (tk' : Nat), Fr h₀ L h' m → News h₀ L h' news → Q (.str (S (R.drop (rs R R.length))) t) { s with heap := h', toks := tk' }) :
    wpAny (model PySem.Challenge.rw_np0038_01.row.prog w) (ktrTop dp un gd cn cs L a ccd [] []) (call (.ref 244) [.str x t, .ref dv]) Q E s :=
  c_told w mean mg mb news news2 dv dp un gd cn cs a ccd A₀ h₀ L m s Q E x t vx vy B F X N T hk V hsub hp hd hu fun t' h' tk' F' N' => by rw [ho]; exact hret t' h' tk' F' N'
end
theorem eq_self {x : Str} : (x == x) = true := by simp
theorem cut_own {x : Str} (_hN : NameOk x) {prog : Program} {w : World} {A : Around} {E : Value → Shared → Prop} {s : Shared} {env : Env} {h₀ : Heap} {L : Addr} {m : Str → Option Value} {news : List (Addr × Obj)} {Q : Flow → Shared → Prop} {st : Stmt}
    (F : Fr h₀ L s.heap m) (N : News h₀ L s.heap news)
    (h2 : ∀ h' tk' v, ExtV x v → Fr h₀ L h' (fun y => if y = Str.ofString "own" then some v else m y) → News h₀ L h' news → Q .next { s with heap := h', toks := tk' }) (h1 : Stop (wpAny (model prog w) A (exec st env) (OneLocal h₀ L m news (Str.ofString "own") (ExtV x) s) E s)) : wpAny (model prog w) A (exec st env) Q E s :=
  cut_local (Str.ofString "own") (ExtV x) F N h1.un h2
theorem cut_dropS {prog : Program} {w : World} {A : Around} {E : Value → Shared → Prop} {s : Shared} {env : Env} {h₀ : Heap} {L : Addr} {m : Str → Option Value} {news news2 : List (Addr × Obj)} {Q : Flow → Shared → Prop} {st : Stmt}
    (_F : Fr h₀ L s.heap m) (_N : News h₀ L s.heap news) (_hsub : ∀ p ∈ news2, p ∈ news)
    (h2 : ∀ h' tk', Fr h₀ L h' m → News h₀ L h' news2 → Q .next { s with heap := h', toks := tk' }) (h1 : Stop (wpAny (model prog w) A (exec st env) (NoLocal h₀ L m news2 s) E s)) : wpAny (model prog w) A (exec st env) Q E s :=
  cut_drop _F _N _hsub h1.un h2
theorem deck_slot {h₀ h : Heap} {L D D1 : Addr} {ys : List Value} {o1 : Obj} (N : News h₀ L h [(D, LCg.lst ys), (D1, o1)]) (hne : D1 ≠ D) : ∃ g, News h₀ L h (g (listOf ys.toArray ys.length)) ∧ UpdF D (listOf ys.toArray ys.length) (g (listOf ys.toArray ys.length)) g :=
  ⟨fun o => [(D, o), (D1, o1)], N, UpdF.head (by intro p hp; rw [List.mem_singleton] at hp; rw [hp]; exact hne)⟩
local macro_rules | `(tactic| k_qdec) => `(tactic| decide +kernel)
set_option maxHeartbeats 200000000
theorem law_holds : PySem.Challenge.rw_np0038_01.Holds := by
  refine hd.2 ?_
  (conv => whnf)
  k_with_none
  k_with "ite @" => first | with_reducible refine ite_tt ?_ | with_reducible refine ite_ff ?_
  k_with "call ref @" => (refine stop ?_)
  k_with "k_updF @" => first | exact updF_again (by with_reducible assumption) _ | exact updF_own (by with_reducible assumption) (by with_reducible assumption) | (refine' UpdF.tail ?aq65 ?bq65; (case aq65 => first | exact ne_of_mem (by with_reducible assumption) (updF_mem (updF_again (by with_reducible assumption) _)) | exact ne_of_mem (by with_reducible assumption) (List.mem_append.mpr (.inl (updF_mem (updF_again (by with_reducible assumption) _)))) | exact ne_of_mem1 (by with_reducible assumption) (updF_mem (updF_again (by with_reducible assumption) _)) | exact ne_of_mem1 (by with_reducible assumption) (List.mem_append.mpr (.inl (updF_mem (updF_again (by with_reducible assumption) _)))) | exact ne_of_mem2 (by with_reducible assumption) (updF_mem (updF_again (by with_reducible assumption) _)) | exact ne_of_mem2 (by with_reducible assumption) (List.mem_append.mpr (.inl (updF_mem (updF_again (by with_reducible assumption) _)))) | exact ne_of_mem3 (by with_reducible assumption) (updF_mem (updF_again (by with_reducible assumption) _)) | exact ne_of_mem3 (by with_reducible assumption) (List.mem_append.mpr (.inl (updF_mem (updF_again (by with_reducible assumption) _)))) | exact ne_of_mem (by with_reducible assumption) (.tail _ (updF_mem (updF_again (by with_reducible assumption) _))) | exact ne_of_mem (by with_reducible assumption) (.tail _ (List.mem_append.mpr (.inl (updF_mem (updF_again (by with_reducible assumption) _))))) | exact ne_of_mem1 (by with_reducible assumption) (.tail _ (updF_mem (updF_again (by with_reducible assumption) _))) | exact ne_of_mem1 (by with_reducible assumption) (.tail _ (List.mem_append.mpr (.inl (updF_mem (updF_again (by with_reducible assumption) _))))) | exact ne_of_mem2 (by with_reducible assumption) (.tail _ (updF_mem (updF_again (by with_reducible assumption) _))) | exact ne_of_mem2 (by with_reducible assumption) (.tail _ (List.mem_append.mpr (.inl (updF_mem (updF_again (by with_reducible assumption) _))))) | exact ne_of_mem3 (by with_reducible assumption) (.tail _ (updF_mem (updF_again (by with_reducible assumption) _))) | exact ne_of_mem3 (by with_reducible assumption) (.tail _ (List.mem_append.mpr (.inl (updF_mem (updF_again (by with_reducible assumption) _))))) | exact ne_of_mem (by with_reducible assumption) (.tail _ (.tail _ (updF_mem (updF_again (by with_reducible assumption) _)))) | exact ne_of_mem (by with_reducible assumption) (.tail _ (.tail _ (List.mem_append.mpr (.inl (updF_mem (updF_again (by with_reducible assumption) _)))))) | exact ne_of_mem1 (by with_reducible assumption) (.tail _ (.tail _ (updF_mem (updF_again (by with_reducible assumption) _)))) | exact ne_of_mem1 (by with_reducible assumption) (.tail _ (.tail _ (List.mem_append.mpr (.inl (updF_mem (updF_again (by with_reducible assumption) _)))))) | exact ne_of_mem2 (by with_reducible assumption) (.tail _ (.tail _ (updF_mem (updF_again (by with_reducible assumption) _)))) | exact ne_of_mem2 (by with_reducible assumption) (.tail _ (.tail _ (List.mem_append.mpr (.inl (updF_mem (updF_again (by with_reducible assumption) _)))))) | exact ne_of_mem3 (by with_reducible assumption) (.tail _ (.tail _ (updF_mem (updF_again (by with_reducible assumption) _)))) | exact ne_of_mem3 (by with_reducible assumption) (.tail _ (.tail _ (List.mem_append.mpr (.inl (updF_mem (updF_again (by with_reducible assumption) _)))))) | exact ne_of_mem (by with_reducible assumption) (.tail _ (.tail _ (.tail _ (updF_mem (updF_again (by with_reducible assumption) _))))) | exact ne_of_mem (by with_reducible assumption) (.tail _ (.tail _ (.tail _ (List.mem_append.mpr (.inl (updF_mem (updF_again (by with_reducible assumption) _))))))) | exact ne_of_mem1 (by with_reducible assumption) (.tail _ (.tail _ (.tail _ (updF_mem (updF_again (by with_reducible assumption) _))))) | exact ne_of_mem1 (by with_reducible assumption) (.tail _ (.tail _ (.tail _ (List.mem_append.mpr (.inl (updF_mem (updF_again (by with_reducible assumption) _))))))) | exact ne_of_mem2 (by with_reducible assumption) (.tail _ (.tail _ (.tail _ (updF_mem (updF_again (by with_reducible assumption) _))))) | exact ne_of_mem2 (by with_reducible assumption) (.tail _ (.tail _ (.tail _ (List.mem_append.mpr (.inl (updF_mem (updF_again (by with_reducible assumption) _))))))) | exact ne_of_mem3 (by with_reducible assumption) (.tail _ (.tail _ (.tail _ (updF_mem (updF_again (by with_reducible assumption) _))))) | exact ne_of_mem3 (by with_reducible assumption) (.tail _ (.tail _ (.tail _ (List.mem_append.mpr (.inl (updF_mem (updF_again (by with_reducible assumption) _))))))) | exact ne_of_mem (by with_reducible assumption) (.tail _ (.tail _ (.tail _ (.tail _ (updF_mem (updF_again (by with_reducible assumption) _)))))) | exact ne_of_mem (by with_reducible assumption) (.tail _ (.tail _ (.tail _ (.tail _ (List.mem_append.mpr (.inl (updF_mem (updF_again (by with_reducible assumption) _)))))))) | exact ne_of_mem1 (by with_reducible assumption) (.tail _ (.tail _ (.tail _ (.tail _ (updF_mem (updF_again (by with_reducible assumption) _)))))) | exact ne_of_mem1 (by with_reducible assumption) (.tail _ (.tail _ (.tail _ (.tail _ (List.mem_append.mpr (.inl (updF_mem (updF_again (by with_reducible assumption) _)))))))) | exact ne_of_mem2 (by with_reducible assumption) (.tail _ (.tail _ (.tail _ (.tail _ (updF_mem (updF_again (by with_reducible assumption) _)))))) | exact ne_of_mem2 (by with_reducible assumption) (.tail _ (.tail _ (.tail _ (.tail _ (List.mem_append.mpr (.inl (updF_mem (updF_again (by with_reducible assumption) _)))))))) | exact ne_of_mem3 (by with_reducible assumption) (.tail _ (.tail _ (.tail _ (.tail _ (updF_mem (updF_again (by with_reducible assumption) _)))))) | exact ne_of_mem3 (by with_reducible assumption) (.tail _ (.tail _ (.tail _ (.tail _ (List.mem_append.mpr (.inl (updF_mem (updF_again (by with_reducible assumption) _)))))))) | fail "no order"); (case bq65 => k_updF)) | fail "no slot"
  k_with "call ref @" => (k_here; (with_reducible show wpAny _ _ (call (Value.ref 216) [Value.ref _, Value.int _ _]) _ _ _); k_dflt (refine' CtD.use (c_draw _ (by decide) (by decide)) ?k1q66 ?k2q66 ?k3q66 ?k4q66 ?k5q66 ?kKq66 ?kUq66 ?kiq66 ?klq66 ?kdq66 ?kuq66 ?_; (case k1q66 => k_asm); (case k2q66 => k_asm); (case k3q66 => k_asm); (case k4q66 => k_asm); (case k5q66 => k_asm); (case kKq66 => first | exact rfl | assumption); (case kUq66 => k_updF); (case kiq66 => assumption); (case klq66 => assumption); (case kdq66 => ktr_room); (case kuq66 => ktr_units)); intro r9 t9 vs9 ks9 n9 h9 tk9 rA9 rB9 hI9 hL9 F9 N9; (try dsimp only at N9); (try k_sweep))
  k_with "subscriptTail Name Call ref int @" => (k_here; (with_reducible show wpAny _ _ (subscriptTail _ _ (Value.ref _) (Value.int _ _)) _ _ _); k_dflt (refine' item_lit ?Nq67 ?mq67 ?iq67 ?aq67 ?bq67 ?zq67 ?Mq67 ?_ ?sq67; (case Nq67 => k_asm); (case mq67 => k_mem); (case iq67 => repeat (first | exact StrsAre.nil | apply StrsAre.cons)); (case aq67 => assumption); (case bq67 => (simp only [List.length_cons, List.length_nil]; omega)); (case zq67 => decide); (case Mq67 => decide +kernel); (case sq67 => with_unfolding_all rfl)); intro x9 t9 hx9 hy9)
  k_with "subscriptTail List cons Call ref int @" => (k_here; (with_reducible show wpAny _ _ (subscriptTail _ _ (Value.ref _) (Value.int _ _)) _ _ _); k_dflt (refine' item_lit ?Nq68 ?mq68 ?iq68 ?aq68 ?bq68 ?zq68 ?Mq68 ?_ ?sq68; (case Nq68 => k_asm); (case mq68 => k_mem); (case iq68 => repeat (first | exact StrsAre.nil | apply StrsAre.cons)); (case aq68 => assumption); (case bq68 => (simp only [List.length_cons, List.length_nil]; omega)); (case zq68 => decide); (case Mq68 => decide +kernel); (case sq68 => with_unfolding_all rfl)); intro x9 t9 hx9 hy9)
  k_with "call ref @" => (k_here; (with_reducible show wpAny _ _ (call (Value.ref 139) _) _ _ _); k_dflt (refine' Ct.useF (cf_restart_of _ _) ?k1q69 ?k2q69 ?k3q69 ?k4q69 ?k5q69 ?kKq69 ?kpq69 ?kdq69 ?kuq69 ?_; (case k1q69 => k_asm); (case k2q69 => k_asm); (case k3q69 => k_asm); (case k4q69 => k_asm); (case k5q69 => k_asm); (case kKq69 => first | exact rfl | assumption); (case kpq69 => first | omega | k_extra "size"); (case kdq69 => ktr_room); (case kuq69 => ktr_units)); intro hf9 t9 h9 tk9 F9 N9; (try dsimp only); (try k_sweep))
  k_with "call ref @" => (k_here; (with_reducible show wpAny _ _ (call (Value.ref 146) _) _ _ _); k_dflt (refine' Ct.useF (cf_variable_end _ _ _ _) ?k1q70 ?k2q70 ?k3q70 ?k4q70 ?k5q70 ?kKq70 ?kpq70 ?kdq70 ?kuq70 ?_; (case k1q70 => k_asm); (case k2q70 => k_asm); (case k3q70 => k_asm); (case k4q70 => k_asm); (case k5q70 => k_asm); (case kKq70 => first | exact rfl | assumption); (case kpq70 => first | omega | k_extra "size"); (case kdq70 => ktr_room); (case kuq70 => ktr_units)); intro hf9 t9 h9 tk9 F9 N9; (try dsimp only); (try k_sweep))
  k_with "call ref @" => (k_here; (with_reducible show wpAny _ _ (call (Value.ref 132) _) _ _ _); k_dflt (refine' Ct.useF (cf_relative _ _ _ _ _ _) ?k1q71 ?k2q71 ?k3q71 ?k4q71 ?k5q71 ?kKq71 ?kpq71 ?kdq71 ?kuq71 ?_; (case k1q71 => k_asm); (case k2q71 => k_asm); (case k3q71 => k_asm); (case k4q71 => k_asm); (case k5q71 => k_asm); (case kKq71 => first | exact rfl | assumption); (case kpq71 => first | omega | k_extra "size"); (case kdq71 => ktr_room); (case kuq71 => ktr_units)); intro hf9 t9 h9 tk9 F9 N9; (try dsimp only); (try k_sweep))
  k_with "call ref @" => (k_here; (with_reducible show wpAny _ _ (call (Value.ref 41) _) _ _ _); k_dflt (refine' Ct.useF (cf_is_absolute _ _) ?k1q72 ?k2q72 ?k3q72 ?k4q72 ?k5q72 ?kKq72 ?kpq72 ?kdq72 ?kuq72 ?_; (case k1q72 => k_asm); (case k2q72 => k_asm); (case k3q72 => k_asm); (case k4q72 => k_asm); (case k5q72 => k_asm); (case kKq72 => first | exact rfl | assumption); (case kpq72 => first | omega | k_extra "size"); (case kdq72 => ktr_room); (case kuq72 => ktr_units)); intro hf9 t9 h9 tk9 F9 N9; (try dsimp only); (try k_sweep))
  k_with "call ref @" => (k_here; (with_reducible show wpAny _ _ (call (Value.ref 55) _) _ _ _); k_dflt (refine' Ct.useF (cf_last_part _ _) ?k1q73 ?k2q73 ?k3q73 ?k4q73 ?k5q73 ?kKq73 ?kpq73 ?kdq73 ?kuq73 ?_; (case k1q73 => k_asm); (case k2q73 => k_asm); (case k3q73 => k_asm); (case k4q73 => k_asm); (case k5q73 => k_asm); (case kKq73 => first | exact rfl | assumption); (case kpq73 => first | omega | k_extra "size"); (case kdq73 => ktr_room); (case kuq73 => ktr_units)); intro hf9 t9 h9 tk9 F9 N9; (try dsimp only); (try k_sweep))
  k_with "call ref @" => (k_here; (with_reducible show wpAny _ _ (call (Value.ref 62) _) _ _ _); k_dflt (refine' Ct.useF (cf_as_directory _ _) ?k1q74 ?k2q74 ?k3q74 ?k4q74 ?k5q74 ?kKq74 ?kpq74 ?kdq74 ?kuq74 ?_; (case k1q74 => k_asm); (case k2q74 => k_asm); (case k3q74 => k_asm); (case k4q74 => k_asm); (case k5q74 => k_asm); (case kKq74 => first | exact rfl | assumption); (case kpq74 => first | omega | k_extra "size"); (case kdq74 => ktr_room); (case kuq74 => ktr_units)); intro hf9 t9 h9 tk9 F9 N9; (try dsimp only); (try k_sweep))
  k_with "call ref @" => (k_here; (with_reducible show wpAny _ _ (call (Value.ref 69) _) _ _ _); k_dflt (refine' Ct.useF (cf_as_file _ _) ?k1q75 ?k2q75 ?k3q75 ?k4q75 ?k5q75 ?kKq75 ?kpq75 ?kdq75 ?kuq75 ?_; (case k1q75 => k_asm); (case k2q75 => k_asm); (case k3q75 => k_asm); (case k4q75 => k_asm); (case k5q75 => k_asm); (case kKq75 => first | exact rfl | assumption); (case kpq75 => first | omega | k_extra "size"); (case kdq75 => ktr_room); (case kuq75 => ktr_units)); intro hf9 t9 h9 tk9 F9 N9; (try dsimp only); (try k_sweep))
  k_with "call ref @" => (k_here; (with_reducible show wpAny _ _ (call (Value.ref 76) _) _ _ _); k_dflt (refine' Ct.useF (cf_version_start _ _) ?k1q76 ?k2q76 ?k3q76 ?k4q76 ?k5q76 ?kKq76 ?kpq76 ?kdq76 ?kuq76 ?_; (case k1q76 => k_asm); (case k2q76 => k_asm); (case k3q76 => k_asm); (case k4q76 => k_asm); (case k5q76 => k_asm); (case kKq76 => first | exact rfl | assumption); (case kpq76 => first | omega | k_extra "size"); (case kdq76 => ktr_room); (case kuq76 => ktr_units)); intro hf9 t9 h9 tk9 F9 N9; (try dsimp only); (try k_sweep))
  k_with "call ref @" => (k_here; (with_reducible show wpAny _ _ (call (Value.ref 83) _) _ _ _); k_dflt (refine' Ct.useF (cf_without_version _ _) ?k1q77 ?k2q77 ?k3q77 ?k4q77 ?k5q77 ?kKq77 ?kpq77 ?kdq77 ?kuq77 ?_; (case k1q77 => k_asm); (case k2q77 => k_asm); (case k3q77 => k_asm); (case k4q77 => k_asm); (case k5q77 => k_asm); (case kKq77 => first | exact rfl | assumption); (case kpq77 => first | omega | k_extra "size"); (case kdq77 => ktr_room); (case kuq77 => ktr_units)); intro hf9 t9 h9 tk9 F9 N9; (try dsimp only); (try k_sweep))
  k_with "call ref @" => (k_here; (with_reducible show wpAny _ _ (call (Value.ref 104) _) _ _ _); k_dflt (refine' Ct.useF (cf_without_extension _ _) ?k1q78 ?k2q78 ?k3q78 ?k4q78 ?k5q78 ?kKq78 ?kpq78 ?kdq78 ?kuq78 ?_; (case k1q78 => k_asm); (case k2q78 => k_asm); (case k3q78 => k_asm); (case k4q78 => k_asm); (case k5q78 => k_asm); (case kKq78 => first | exact rfl | assumption); (case kpq78 => first | omega | k_extra "size"); (case kdq78 => ktr_room); (case kuq78 => ktr_units)); intro hf9 t9 h9 tk9 F9 N9; (try dsimp only); (try k_sweep))
  k_with "call ref @" => (k_here; (with_reducible show wpAny _ _ (call (Value.ref 188) _) _ _ _); k_dflt (refine' Ct.useF (cf_is_backup_name _ _) ?k1q79 ?k2q79 ?k3q79 ?k4q79 ?k5q79 ?kKq79 ?kpq79 ?kdq79 ?kuq79 ?_; (case k1q79 => k_asm); (case k2q79 => k_asm); (case k3q79 => k_asm); (case k4q79 => k_asm); (case k5q79 => k_asm); (case kKq79 => first | exact rfl | assumption); (case kpq79 => first | omega | k_extra "size"); (case kdq79 => ktr_room); (case kuq79 => ktr_units)); intro hf9 t9 h9 tk9 F9 N9; (try dsimp only); (try k_sweep))
  k_with "call ref @" => (k_here; (with_reducible show wpAny _ _ (call (Value.ref 111) _) _ _ _); k_dflt (refine' Ct.useF (cf_with_home _ _ _ _) ?k1q80 ?k2q80 ?k3q80 ?k4q80 ?k5q80 ?kKq80 ?kpq80 ?kdq80 ?kuq80 ?_; (case k1q80 => k_asm); (case k2q80 => k_asm); (case k3q80 => k_asm); (case k4q80 => k_asm); (case k5q80 => k_asm); (case kKq80 => first | exact rfl | assumption); (case kpq80 => first | omega | k_extra "size"); (case kdq80 => ktr_room); (case kuq80 => ktr_units)); intro hf9 t9 h9 tk9 F9 N9; (try dsimp only); (try k_sweep))
  k_with "call ref @" => (k_here; (with_reducible show wpAny _ _ (call (Value.ref 125) _) _ _ _); k_dflt (refine' Ct.useF (cf_expanded _ _ _ _ _ _) ?k1q81 ?k2q81 ?k3q81 ?k4q81 ?k5q81 ?kKq81 ?kpq81 ?kdq81 ?kuq81 ?_; (case k1q81 => k_asm); (case k2q81 => k_asm); (case k3q81 => k_asm); (case k4q81 => k_asm); (case k5q81 => k_asm); (case kKq81 => first | exact rfl | assumption); (case kpq81 => first | omega | k_extra "size"); (case kdq81 => ktr_room); (case kuq81 => ktr_units)); intro hf9 t9 h9 tk9 F9 N9; (try dsimp only); (try k_sweep))
  k_with "call ref @" => (k_here; (with_reducible show wpAny _ _ (call (Value.ref 167) _) _ _ _); k_dflt (refine' Ct.useF (cf_backup_name _ _) ?k1q82 ?k2q82 ?k3q82 ?k4q82 ?k5q82 ?kKq82 ?kpq82 ?kdq82 ?kuq82 ?_; (case k1q82 => k_asm); (case k2q82 => k_asm); (case k3q82 => k_asm); (case k4q82 => k_asm); (case k5q82 => k_asm); (case kKq82 => first | exact rfl | assumption); (case kpq82 => first | omega | k_extra "size"); (case kdq82 => ktr_room); (case kuq82 => ktr_units)); intro hf9 t9 h9 tk9 F9 N9; (try dsimp only); (try k_sweep))
  k_with "call ref @" => (k_here; (with_reducible show wpAny _ _ (call (Value.ref 195) _) _ _ _); k_dflt (refine' Ct.useF (cf_auto_save_name _ _) ?k1q83 ?k2q83 ?k3q83 ?k4q83 ?k5q83 ?kKq83 ?kpq83 ?kdq83 ?kuq83 ?_; (case k1q83 => k_asm); (case k2q83 => k_asm); (case k3q83 => k_asm); (case k4q83 => k_asm); (case k5q83 => k_asm); (case kKq83 => first | exact rfl | assumption); (case kpq83 => first | omega | k_extra "size"); (case kdq83 => ktr_room); (case kuq83 => ktr_units)); intro hf9 t9 h9 tk9 F9 N9; (try dsimp only); (try k_sweep))
  k_with "call ref @" => (k_here; (with_reducible show wpAny _ _ (call (Value.ref 202) _) _ _ _); k_dflt (refine' Ct.useF (cf_is_auto_save_name _ _) ?k1q84 ?k2q84 ?k3q84 ?k4q84 ?k5q84 ?kKq84 ?kpq84 ?kdq84 ?kuq84 ?_; (case k1q84 => k_asm); (case k2q84 => k_asm); (case k3q84 => k_asm); (case k4q84 => k_asm); (case k5q84 => k_asm); (case kKq84 => first | exact rfl | assumption); (case kpq84 => first | omega | k_extra "size"); (case kdq84 => ktr_room); (case kuq84 => ktr_units)); intro hf9 t9 h9 tk9 F9 N9; (try dsimp only); (try k_sweep))
  k_with "call ref @" => (k_here; (with_reducible show wpAny _ _ (call (Value.ref 209) _) _ _ _); k_dflt (refine' Ct.useF (cf_lock_name _ _) ?k1q85 ?k2q85 ?k3q85 ?k4q85 ?k5q85 ?kKq85 ?kpq85 ?kdq85 ?kuq85 ?_; (case k1q85 => k_asm); (case k2q85 => k_asm); (case k3q85 => k_asm); (case k4q85 => k_asm); (case k5q85 => k_asm); (case kKq85 => first | exact rfl | assumption); (case kpq85 => first | omega | k_extra "size"); (case kdq85 => ktr_room); (case kuq85 => ktr_units)); intro hf9 t9 h9 tk9 F9 N9; (try dsimp only); (try k_sweep))
  k_with "call ref @" => (k_here; (with_reducible show wpAny _ _ (call (Value.ref 160) _) _ _ _); k_dflt (refine' Ct.useF (cf_abbreviated _ _ _ _) ?k1q86 ?k2q86 ?k3q86 ?k4q86 ?k5q86 ?kKq86 ?kpq86 ?kdq86 ?kuq86 ?_; (case k1q86 => k_asm); (case k2q86 => k_asm); (case k3q86 => k_asm); (case k4q86 => k_asm); (case k5q86 => k_asm); (case kKq86 => first | exact rfl | assumption); (case kpq86 => first | omega | k_extra "size"); (case kdq86 => ktr_room); (case kuq86 => ktr_units)); intro hf9 t9 h9 tk9 F9 N9; (try dsimp only); (try k_sweep))
  k_with "call ref @" => (k_here; (with_reducible show wpAny _ _ (call (Value.ref 174) _) _ _ _); k_dflt (refine' Ct.useF (cf_numbered_name _ _ _ _) ?k1q87 ?k2q87 ?k3q87 ?k4q87 ?k5q87 ?kKq87 ?kpq87 ?kdq87 ?kuq87 ?_; (case k1q87 => k_asm); (case k2q87 => k_asm); (case k3q87 => k_asm); (case k4q87 => k_asm); (case k5q87 => k_asm); (case kKq87 => first | exact rfl | assumption); (case kpq87 => first | omega | k_extra "size"); (case kdq87 => ktr_room); (case kuq87 => ktr_units)); intro hf9 t9 h9 tk9 F9 N9; (try dsimp only); (try k_sweep))
  k_with "call ref @" => (k_here; (with_reducible show wpAny _ _ (call (Value.ref 181) _) _ _ _); k_dflt (refine' Ct.useF (cf_backup_number_0 _ _ _ _) ?k1q88 ?k2q88 ?k3q88 ?k4q88 ?k5q88 ?kKq88 ?kpq88 ?kdq88 ?kuq88 ?_; (case k1q88 => k_asm); (case k2q88 => k_asm); (case k3q88 => k_asm); (case k4q88 => k_asm); (case k5q88 => k_asm); (case kKq88 => first | exact rfl | assumption); (case kpq88 => exact ⟨by omega, rfl⟩); (case kdq88 => ktr_room); (case kuq88 => ktr_units)); intro hf9 t9 h9 tk9 F9 N9; (try dsimp only); (try k_sweep))
  k_with "call ref @" => (k_here; (with_reducible show wpAny _ _ (call (Value.ref 181) _) _ _ _); k_dflt (refine' Ct.useF (cf_backup_number_k _ _ _ _ _) ?k1q89 ?k2q89 ?k3q89 ?k4q89 ?k5q89 ?kKq89 ?kpq89 ?kdq89 ?kuq89 ?_; (case k1q89 => k_asm); (case k2q89 => k_asm); (case k3q89 => k_asm); (case k4q89 => k_asm); (case k5q89 => k_asm); (case kKq89 => first | exact rfl | assumption); (case kpq89 => with_reducible exact num_pre (by with_reducible assumption) (by with_reducible assumption) (by with_reducible assumption)); (case kdq89 => ktr_room); (case kuq89 => ktr_units)); intro hf9 t9 h9 tk9 F9 N9; (try dsimp only); (try k_sweep))
  k_with "call ref @" => (k_here; (with_reducible show wpAny _ _ (call (Value.ref 230) _) _ _ _); k_dflt (refine' CtL.use (c_law_steps _ _ _ _ _ _) ?k1q90 ?k2q90 ?k3q90 ?k4q90 ?k5q90 ?kKq90 ?kpq90 ?kdq90 ?kuq90 ?_; (case k1q90 => k_asm); (case k2q90 => k_asm); (case k3q90 => k_asm); (case k4q90 => k_asm); (case k5q90 => k_asm); (case kKq90 => first | exact rfl | assumption); (case kpq90 => first | omega | k_extra "size"); (case kdq90 => ktr_room); (case kuq90 => ktr_units)); intro D9 its9 n9 h9 tk9 F9 N9 l9 hSA9; (try dsimp only); (try k_sweep))
  k_with "call ref @" => (k_here; (with_reducible show wpAny _ _ (call (Value.ref 223) [Value.ref _]) _ _ _); k_dflt (refine' CtN.use c_name ?k1q91 ?k2q91 ?k3q91 ?k4q91 ?k5q91 ?kKq91 ?kUq91 ?kiq91 ?klq91 ?kdq91 ?kuq91 ?_; (case k1q91 => k_asm); (case k2q91 => k_asm); (case k3q91 => k_asm); (case k4q91 => k_asm); (case k5q91 => k_asm); (case kKq91 => first | exact rfl | assumption); (case kUq91 => k_updF); (case kiq91 => assumption); (case klq91 => assumption); (case kdq91 => ktr_room); (case kuq91 => ktr_units)); intro x9 t9 vs9 ks9 n9 h9 tk9 hx9 hI9 hL9 F9 N9; have hxL9 := nameOk_len hx9; (try dsimp only at N9); (try k_sweep))
  k_with "call ref @" => (k_here; (with_reducible show wpAny _ _ (call (Value.ref 48) [Value.str _ _]) _ _ _); k_dflt (refine' dir_use ?k1q92 ?k2q92 ?k3q92 ?k4q92 ?k5q92 ?kKq92 ?kpq92 ?kdq92 ?kuq92 ?_ ?_; (case k1q92 => k_asm); (case k2q92 => k_asm); (case k3q92 => k_asm); (case k4q92 => k_asm); (case k5q92 => k_asm); (case kKq92 => first | exact rfl | assumption); (case kpq92 => omega); (case kdq92 => ktr_room); (case kuq92 => ktr_units)); (first | (intro hm9 h9 tk9 F9 N9) | (intro hm9 hl9 t9 h9 tk9 F9 N9)); (try dsimp only); (try k_sweep))
  k_with "call ref @" => (k_here; (with_reducible show wpAny _ _ (call (Value.ref 97) [Value.str _ _]) _ _ _); k_dflt (refine' ext_use ?k1q93 ?k2q93 ?k3q93 ?k4q93 ?k5q93 ?kKq93 ?kpq93 ?kdq93 ?kuq93 ?_ ?_; (case k1q93 => k_asm); (case k2q93 => k_asm); (case k3q93 => k_asm); (case k4q93 => k_asm); (case k5q93 => k_asm); (case kKq93 => first | exact rfl | assumption); (case kpq93 => omega); (case kdq93 => ktr_room); (case kuq93 => ktr_units)); (first | (intro hm9 h9 tk9 F9 N9) | (intro hm9 t9 h9 tk9 F9 N9)); (try dsimp only); (try k_sweep))
  k_with "exec If @" => (k_here; (fail_if_success (with_reducible show wpAny _ _ _ (NoLocal _ _ _ _ _) _ _)); (rename Fr _ _ _ _ => fE); (rename News _ _ _ _ => nE); k_dflt (refine' cut_dropS fE nE ?subq94 ?_ ?_; (case subq94 => first | exact sub10 | exact sub9 | exact sub8 | exact sub7 | exact sub6 | exact sub5 | exact sub4 | exact sub3 | exact sub2 | exact sub1 | exact sub_rfl)); intro h' tk' F' N'; (clear nE fE); (try dsimp only at F' N'); (try dsimp only); (try k_sweep))
  k_with "exec Assign @" => (k_here; (with_reducible show wpAny _ _ (exec (Stmt.Assign [Expr.Name (PySem.Str.ofString "own") _] _ _) _) _ _ _); (fail_if_success (with_reducible show wpAny _ _ _ (OneLocal _ _ _ _ _ _ _) _ _)); (rename Fr _ _ _ _ => fE); (rename News _ _ _ _ => nE); k_dflt (refine' cut_own (by assumption) fE nE ?_ ?_); intro h' tk' v9 hR9 F' N'; (clear nE fE); (try dsimp only at F' N'); (try dsimp only); (try k_sweep))
  k_with "k_all @" => first | exact ne_slot (by with_reducible assumption) (by with_reducible assumption) | exact ne_slot1 (by with_reducible assumption) (by with_reducible assumption) | exact ne_slot2 (by with_reducible assumption) (by with_reducible assumption) | fail "no slot"
  k_with "ite @" => first | with_reducible refine ite_tt ?_ | with_reducible refine ite_ff ?_ | (refine ite_pos (by with_reducible assumption) ?_) | (refine ite_neg (by with_reducible assumption) ?_) | with_reducible refine split_not ?_ | (refine split_dec ?_ ?_ <;> intro _) | (refine split_bool ?_ ?_ <;> intro _)
  k_with "call builtin:str.join @" => (k_here; (with_reducible show wpAny _ _ (call (Value.builtin "str.join") [Value.str _ _, Value.ref _]) _ _ _); k_dflt (refine' join_ref ?eq98 ?lq98 ?iq98 ?zq98 ?_; (case eq98 => decide +kernel); (case lq98 => kmk_list); (case iq98 => assumption); (case zq98 => k_extra "join")); intro hj9 t9 k9)
  k_with "call ref @" => (k_here; (with_reducible show wpAny _ _ (call (Value.ref 244) _) _ _ _); k_dflt (refine' told_none ?k1q99 ?k2q99 ?k3q99 ?k4q99 ?k5q99 ?kKq99 ?kVq99 ?kSq99 ?kpq99 ?kdq99 ?kuq99 ?koq99 ?_; (case k1q99 => k_asm); (case k2q99 => k_asm); (case k3q99 => k_asm); (case k4q99 => k_asm); (case k5q99 => k_asm); (case kKq99 => first | exact rfl | assumption); (case kVq99 => assumption); (case kSq99 => exact one_sub (by assumption)); (case kpq99 => assumption); (case kdq99 => ktr_room); (case kuq99 => ktr_units); (case koq99 => assumption)); intro h9 tk9 F9 N9; (try dsimp only); (try k_sweep))
  k_with "call ref @" => (k_here; (with_reducible show wpAny _ _ (call (Value.ref 244) _) _ _ _); k_dflt (refine' told_some ?k1q100 ?k2q100 ?k3q100 ?k4q100 ?k5q100 ?kKq100 ?kVq100 ?kSq100 ?kpq100 ?kdq100 ?kuq100 ?koq100 ?_; (case k1q100 => k_asm); (case k2q100 => k_asm); (case k3q100 => k_asm); (case k4q100 => k_asm); (case k5q100 => k_asm); (case kKq100 => first | exact rfl | assumption); (case kVq100 => assumption); (case kSq100 => exact one_sub (by assumption)); (case kpq100 => assumption); (case kdq100 => ktr_room); (case kuq100 => ktr_units); (case koq100 => assumption)); intro t9 h9 tk9 F9 N9; (try dsimp only); (try k_sweep))
  k_with "call ref @" => (k_here; (with_reducible show wpAny _ _ (call (Value.ref 237) _) _ _ _); k_dflt (refine' wri_use_none ?k1q101 ?k2q101 ?k3q101 ?k4q101 ?k5q101 ?kKq101 ?kVq101 ?kSq101 ?kpq101 ?kdq101 ?kuq101 ?koq101 ?_; (case k1q101 => k_asm); (case k2q101 => k_asm); (case k3q101 => k_asm); (case k4q101 => k_asm); (case k5q101 => k_asm); (case kKq101 => first | exact rfl | assumption); (case kVq101 => assumption); (case kSq101 => exact one_sub (by assumption)); (case kpq101 => assumption); (case kdq101 => ktr_room); (case kuq101 => ktr_units); (case koq101 => assumption)); intro h9 tk9 F9 N9; (try dsimp only); (try k_sweep))
  k_with "call ref @" => (k_here; (with_reducible show wpAny _ _ (call (Value.ref 237) _) _ _ _); k_dflt (refine' wri_use_some ?k1q102 ?k2q102 ?k3q102 ?k4q102 ?k5q102 ?kKq102 ?kVq102 ?kSq102 ?kpq102 ?kdq102 ?kuq102 ?koq102 ?_; (case k1q102 => k_asm); (case k2q102 => k_asm); (case k3q102 => k_asm); (case k4q102 => k_asm); (case k5q102 => k_asm); (case kKq102 => first | exact rfl | assumption); (case kVq102 => assumption); (case kSq102 => exact one_sub (by assumption)); (case kpq102 => assumption); (case kdq102 => ktr_room); (case kuq102 => ktr_units); (case koq102 => assumption)); intro t9 h9 tk9 F9 N9; (try dsimp only); (try k_sweep))
  k_go0
  (all_goals try k_fold)
  k_steps
  refine Stop.mk ?_
  (rename IntsAre ys _ => hI8); (rename ys.length = _ => hL8); (rename News _ _ _ _ => N0); (rename _ ≠ _ => hne)
  have hl9 : ys.length ≤ 100 := by
    rw [hL8, List.length_map, List.length_take]
    omega
  obtain ⟨g, N1, hU⟩ := deck_slot N0 hne
  clear N0
  have hq0 : (Str.ofString "/").length = 1 := by decide +kernel
  have hq1 : (Str.ofString "/x").length = 2 := by decide +kernel
  have hq2 : (Str.ofString "/y").length = 2 := by decide +kernel
  have hq3 : (Str.ofString ".").length = 1 := by decide +kernel
  have hq4 : (Str.ofString "a").length = 1 := by decide +kernel
  have hq5 : (Str.ofString "x").length = 1 := by decide +kernel
  have hq6 : (Str.ofString "z").length = 1 := by decide +kernel
  have hq7 : (Str.ofString "#").length = 1 := by decide +kernel
  have hq8 : (Str.ofString ".#").length = 2 := by decide +kernel
  have hq9 : (Str.ofString "").length = 0 := by decide +kernel
  k_with "size" => first | exact ⟨by omega, by omega, by omega⟩ | exact ⟨by omega, by omega⟩
  k_with "join" => exact law_join (by omega) (by omega) (by omega)
  k_with "pyIter ref" => refine stop ?_
  k_steps
  · refine Stop.mk ?_
    (rename Fr _ _ _ _ => fE); (rename News _ _ _ _ => nE); (rename IsRange _ _ _ _ _ _ _ _ => rgX)
    (rename Obj.IsDictOf _ _ _ => hdD); (rename (_ == sysModules) = false => loD); (rename _ < 6 => hr6)
    (rename _ ∈ [Str.ofString "", Str.ofString "b", Str.ofString "/q"] => hvx)
    have hvl := val_len _ hvx
    obtain ⟨G, nE2, hU2, hmem⟩ := text_slot nE hU (by with_reducible assumption)
    have hV := vals_of loD hdD
    with_unfolding_all refine' kst_range (fun c : TS => G (listOf c.vs.toArray c.n)) (fun c => [(Str.ofString "text", .str c.f c.t)]) (fun c => IntsAre c.vs c.ks ∧ c.vs.length ≤ 100) [] (fun pre c => TOk c.f ∧ c.f.length ≤ 4 * pre.length) ⟨_, _, _, _, _⟩ (by rfl) (by first | exact rgX | assumption) (small_one (by omega) (by omega) (by omega) (by omega)) (rangeSize_nat _ _) fE nE2 ⟨by assumption, by assumption⟩ ?kk ⟨tOk_nil, Nat.le_of_eq hq9⟩ ?turn ?done
    (case kk => kst_all)
    · clear nE fE nE2; intro c pre k t u h tk own hk hlt hoff hf hP fE nE; have kMk : KstMark := kstMark
      obtain ⟨vsC, ksC, nC, fC, tC⟩ := c
      obtain ⟨hfa, hfb⟩ := hf
      obtain ⟨hP1, hP2⟩ := hP
      replace hoff := offAll_of hU2 hoff
      dsimp only [kstB] at fE nE hfa hfb hP1 hP2
      have hL : fC.length ≤ 60 := by omega
      try k_fold
      k_steps
      (rename Fr _ _ _ _ => fX); (rename News _ _ _ _ => nX); (rename IntsAre _ _ => hiX); (rename List.length _ ≤ 100 => hlX); (rename _ ∈ [Str.ofString "a", Str.ofString "/", Str.ofString "$X", Str.ofString "${X}", Str.ofString "$$", Str.ofString "$Y", Str.ofString "~", Str.ofString "$", Str.ofString "${Y}", Str.ofString "//"] => hin)
      with_unfolding_all refine' kst_end (⟨_, _, _, _, _⟩ : TS) fX nX (fun p hp => .tail _ (List.mem_append.mpr (.inl hp))) (fun p hp => .tail _ (List.mem_append.mpr (.inr hp))) (updF_fst hU2 _ _) ⟨hiX, hlX⟩ ?hk ?hr ⟨tOk_add hP1 hin, ?h2⟩
      case hk => kst_all
      case hr => kst_same
      case h2 =>
        rw [List.length_append, List.length_singleton]
        exact Nat.le_trans (tOk_len hP2 hin) (by omega)
    · clear nE fE nE2; intro c u h tk hf hP fE nE; have kMk : KstMark := kstMark
      obtain ⟨vsC, ksC, nC, fC, tC⟩ := c
      obtain ⟨hfa, hfb⟩ := hf
      obtain ⟨hP1, hP2⟩ := hP
      dsimp only [kstB] at fE nE hfa hfb hP1 hP2
      rw [rangeKs_length] at hP2
      have hL : fC.length ≤ 60 := by omega
      have hp3 := And.intro (show fC.length ≤ 100 by omega) (And.intro hvl home_w)
      try k_fold
      rcases told_cases hV hP1 with ⟨hW, hS⟩ | ⟨R, hW, hS⟩
      · k_steps
      · k_steps
  · refine Stop.mk ?_
    have hDk := dirOk_len (dir_ok _ (by with_reducible assumption))
    have hHk := dirOk_len (home_ok _ (by with_reducible assumption))
    k_steps
    all_goals first | exact (if10a (by with_reducible assumption)).elim | exact (if10b (home_ok _ (by with_reducible assumption)) (by with_reducible assumption)).elim | ((rename Fr _ _ _ _ => fX); (rename News _ _ _ _ => nX); first | exact no_local fX nX | exact no_local fX (fun p hp => nX p (sub1 p hp)) | exact no_local fX (fun p hp => nX p (sub2 p hp)) | exact no_local fX (fun p hp => nX p (sub3 p hp)) | exact no_local fX (fun p hp => nX p (sub4 p hp)) | exact no_local fX (fun p hp => nX p (sub5 p hp)) | exact no_local fX (fun p hp => nX p (sub6 p hp)) | exact no_local fX (fun p hp => nX p (sub7 p hp)) | exact no_local fX (fun p hp => nX p (sub8 p hp)) | exact no_local fX (fun p hp => nX p (sub9 p hp)) | exact no_local fX (fun p hp => nX p (sub10 p hp)))
  · refine Stop.mk ?_
    have hDk := dirOk_len (dir_ok _ (by with_reducible assumption))
    have hHk := dirOk_len (home_ok _ (by with_reducible assumption))
    k_steps
    all_goals first | exact (if9a (by with_reducible assumption)).elim | exact (if9b (by with_reducible assumption)).elim | ((rename Fr _ _ _ _ => fX); (rename News _ _ _ _ => nX); first | exact no_local fX nX | exact no_local fX (fun p hp => nX p (sub1 p hp)) | exact no_local fX (fun p hp => nX p (sub2 p hp)) | exact no_local fX (fun p hp => nX p (sub3 p hp)) | exact no_local fX (fun p hp => nX p (sub4 p hp)) | exact no_local fX (fun p hp => nX p (sub5 p hp)) | exact no_local fX (fun p hp => nX p (sub6 p hp)) | exact no_local fX (fun p hp => nX p (sub7 p hp)) | exact no_local fX (fun p hp => nX p (sub8 p hp)) | exact no_local fX (fun p hp => nX p (sub9 p hp)) | exact no_local fX (fun p hp => nX p (sub10 p hp)))
  · refine Stop.mk ?_
    have hDk := dirOk_len (dir_ok _ (by with_reducible assumption))
    have hHk := dirOk_len (home_ok _ (by with_reducible assumption))
    (rename NameOk _ => hNm); have hA8 := asDir_pos' hNm
    k_steps
    all_goals first | exact (if8a (by with_reducible assumption) (by with_reducible assumption) (by with_reducible assumption)).elim | exact (if8b (by with_reducible assumption)).elim | ((rename Fr _ _ _ _ => fX); (rename News _ _ _ _ => nX); first | exact no_local fX nX | exact no_local fX (fun p hp => nX p (sub1 p hp)) | exact no_local fX (fun p hp => nX p (sub2 p hp)) | exact no_local fX (fun p hp => nX p (sub3 p hp)) | exact no_local fX (fun p hp => nX p (sub4 p hp)) | exact no_local fX (fun p hp => nX p (sub5 p hp)) | exact no_local fX (fun p hp => nX p (sub6 p hp)) | exact no_local fX (fun p hp => nX p (sub7 p hp)) | exact no_local fX (fun p hp => nX p (sub8 p hp)) | exact no_local fX (fun p hp => nX p (sub9 p hp)) | exact no_local fX (fun p hp => nX p (sub10 p hp)))
  · refine Stop.mk ?_
    have hDk := dirOk_len (dir_ok _ (by with_reducible assumption))
    have hHk := dirOk_len (home_ok _ (by with_reducible assumption))
    k_steps
    all_goals first | exact (ne_int (by with_reducible assumption)).elim | ((rename Fr _ _ _ _ => fX); (rename News _ _ _ _ => nX); first | exact no_local fX nX | exact no_local fX (fun p hp => nX p (sub1 p hp)) | exact no_local fX (fun p hp => nX p (sub2 p hp)) | exact no_local fX (fun p hp => nX p (sub3 p hp)) | exact no_local fX (fun p hp => nX p (sub4 p hp)) | exact no_local fX (fun p hp => nX p (sub5 p hp)) | exact no_local fX (fun p hp => nX p (sub6 p hp)) | exact no_local fX (fun p hp => nX p (sub7 p hp)) | exact no_local fX (fun p hp => nX p (sub8 p hp)) | exact no_local fX (fun p hp => nX p (sub9 p hp)) | exact no_local fX (fun p hp => nX p (sub10 p hp)))
  · refine Stop.mk ?_
    have hDk := dirOk_len (dir_ok _ (by with_reducible assumption))
    have hHk := dirOk_len (home_ok _ (by with_reducible assumption))
    (rename ExtV _ _ => hR); rcases hR with ⟨hm, rfl⟩ | ⟨hm, hl, t, rfl⟩
    all_goals k_steps
    all_goals try (refine Stop.mk ?_; k_steps)
    all_goals first | exact (if6a (by with_reducible assumption) (by with_reducible assumption)).elim | exact (if6b (by with_reducible assumption) (by with_reducible assumption)).elim | exact (if6c (by with_reducible assumption) (by with_reducible assumption)).elim | exact (if6d (by with_reducible assumption) (by with_reducible assumption)).elim | ((rename Fr _ _ _ _ => fX); (rename News _ _ _ _ => nX); first | exact no_local fX nX | exact no_local fX (fun p hp => nX p (sub1 p hp)) | exact no_local fX (fun p hp => nX p (sub2 p hp)) | exact no_local fX (fun p hp => nX p (sub3 p hp)) | exact no_local fX (fun p hp => nX p (sub4 p hp)) | exact no_local fX (fun p hp => nX p (sub5 p hp)) | exact no_local fX (fun p hp => nX p (sub6 p hp)) | exact no_local fX (fun p hp => nX p (sub7 p hp)) | exact no_local fX (fun p hp => nX p (sub8 p hp)) | exact no_local fX (fun p hp => nX p (sub9 p hp)) | exact no_local fX (fun p hp => nX p (sub10 p hp)))
  · refine Stop.mk ?_
    k_steps
    all_goals ((rename Fr _ _ _ _ => fX); (rename News _ _ _ _ => nX); first | exact one_local (extV_none (by with_reducible assumption)) fX nX (fun _ => rfl) | exact one_local (extV_some (by with_reducible assumption)) fX nX (fun _ => rfl))
  · refine Stop.mk ?_
    have hDk := dirOk_len (dir_ok _ (by with_reducible assumption))
    have hHk := dirOk_len (home_ok _ (by with_reducible assumption))
    k_steps
    all_goals first | exact (if5a (by with_reducible assumption)).elim | exact (if5b (by with_reducible assumption) (by with_reducible assumption)).elim | exact (if5c (by with_reducible assumption)).elim | ((rename Fr _ _ _ _ => fX); (rename News _ _ _ _ => nX); first | exact no_local fX nX | exact no_local fX (fun p hp => nX p (sub1 p hp)) | exact no_local fX (fun p hp => nX p (sub2 p hp)) | exact no_local fX (fun p hp => nX p (sub3 p hp)) | exact no_local fX (fun p hp => nX p (sub4 p hp)) | exact no_local fX (fun p hp => nX p (sub5 p hp)) | exact no_local fX (fun p hp => nX p (sub6 p hp)) | exact no_local fX (fun p hp => nX p (sub7 p hp)) | exact no_local fX (fun p hp => nX p (sub8 p hp)) | exact no_local fX (fun p hp => nX p (sub9 p hp)) | exact no_local fX (fun p hp => nX p (sub10 p hp)))
  · refine Stop.mk ?_
    have hDk := dirOk_len (dir_ok _ (by with_reducible assumption))
    have hHk := dirOk_len (home_ok _ (by with_reducible assumption))
    k_steps
    all_goals first | exact (if4d (by with_reducible assumption)).elim | exact (if4a (by with_reducible assumption) (by with_reducible assumption)).elim | exact (if4b (by with_reducible assumption) (by with_reducible assumption)).elim | exact (if4c (by with_reducible assumption) (by with_reducible assumption)).elim | ((rename Fr _ _ _ _ => fX); (rename News _ _ _ _ => nX); first | exact no_local fX nX | exact no_local fX (fun p hp => nX p (sub1 p hp)) | exact no_local fX (fun p hp => nX p (sub2 p hp)) | exact no_local fX (fun p hp => nX p (sub3 p hp)) | exact no_local fX (fun p hp => nX p (sub4 p hp)) | exact no_local fX (fun p hp => nX p (sub5 p hp)) | exact no_local fX (fun p hp => nX p (sub6 p hp)) | exact no_local fX (fun p hp => nX p (sub7 p hp)) | exact no_local fX (fun p hp => nX p (sub8 p hp)) | exact no_local fX (fun p hp => nX p (sub9 p hp)) | exact no_local fX (fun p hp => nX p (sub10 p hp)))
  · refine Stop.mk ?_
    have hDk := dirOk_len (dir_ok _ (by with_reducible assumption))
    have hHk := dirOk_len (home_ok _ (by with_reducible assumption))
    k_steps
    all_goals first | exact (if3 (by with_reducible assumption) (dir_ok _ (by with_reducible assumption)) (home_ok _ (by with_reducible assumption)) (by with_reducible assumption)).elim | ((rename Fr _ _ _ _ => fX); (rename News _ _ _ _ => nX); first | exact no_local fX nX | exact no_local fX (fun p hp => nX p (sub1 p hp)) | exact no_local fX (fun p hp => nX p (sub2 p hp)) | exact no_local fX (fun p hp => nX p (sub3 p hp)) | exact no_local fX (fun p hp => nX p (sub4 p hp)) | exact no_local fX (fun p hp => nX p (sub5 p hp)) | exact no_local fX (fun p hp => nX p (sub6 p hp)) | exact no_local fX (fun p hp => nX p (sub7 p hp)) | exact no_local fX (fun p hp => nX p (sub8 p hp)) | exact no_local fX (fun p hp => nX p (sub9 p hp)) | exact no_local fX (fun p hp => nX p (sub10 p hp)))
  · refine Stop.mk ?_
    have hDk := dirOk_len (dir_ok _ (by with_reducible assumption))
    have hHk := dirOk_len (home_ok _ (by with_reducible assumption))
    k_steps
    all_goals first | exact (if2 (by with_reducible assumption) (by with_reducible assumption)).elim | ((rename Fr _ _ _ _ => fX); (rename News _ _ _ _ => nX); first | exact no_local fX nX | exact no_local fX (fun p hp => nX p (sub1 p hp)) | exact no_local fX (fun p hp => nX p (sub2 p hp)) | exact no_local fX (fun p hp => nX p (sub3 p hp)) | exact no_local fX (fun p hp => nX p (sub4 p hp)) | exact no_local fX (fun p hp => nX p (sub5 p hp)) | exact no_local fX (fun p hp => nX p (sub6 p hp)) | exact no_local fX (fun p hp => nX p (sub7 p hp)) | exact no_local fX (fun p hp => nX p (sub8 p hp)) | exact no_local fX (fun p hp => nX p (sub9 p hp)) | exact no_local fX (fun p hp => nX p (sub10 p hp)))
  · refine Stop.mk ?_
    have hDk := dirOk_len (dir_ok _ (by with_reducible assumption))
    have hHk := dirOk_len (home_ok _ (by with_reducible assumption))
    k_steps
    all_goals first | exact (if1a (dir_ok _ (by with_reducible assumption)) (home_ok _ (by with_reducible assumption)) (by with_reducible assumption)).elim | exact (if1b (by with_reducible assumption)).elim | exact (if1c (by with_reducible assumption)).elim | ((rename Fr _ _ _ _ => fX); (rename News _ _ _ _ => nX); first | exact no_local fX nX | exact no_local fX (fun p hp => nX p (sub1 p hp)) | exact no_local fX (fun p hp => nX p (sub2 p hp)) | exact no_local fX (fun p hp => nX p (sub3 p hp)) | exact no_local fX (fun p hp => nX p (sub4 p hp)) | exact no_local fX (fun p hp => nX p (sub5 p hp)) | exact no_local fX (fun p hp => nX p (sub6 p hp)) | exact no_local fX (fun p hp => nX p (sub7 p hp)) | exact no_local fX (fun p hp => nX p (sub8 p hp)) | exact no_local fX (fun p hp => nX p (sub9 p hp)) | exact no_local fX (fun p hp => nX p (sub10 p hp)))
end Mine
end
theorem PySem.Challenge.cw_np0038_01_holds : PySem.Challenge.rw_np0038_01.Holds :=
  Mine.law_holds
