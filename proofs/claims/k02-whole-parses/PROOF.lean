import PyProof.Rows.All
import Wide.All
import OpenK.AllK
import Wide.FinOn
import HandS.ForMost
import HandS.IsInst
import HandS.Walk
import HandS.TupAny
import HandS.Conv
import HandS.SortRule
import HandS.Exc
import HandS.TryOnly
import HandS.ExcOwn
import HandS.WordsExc
import HandS.CallSlots
import KE.GoesMore
import KE.GoesEnum
import PyProof.StrOps2
import HandS.ForSpec
import HandS.Codes
import PySem.Challenge.RW_syncedwords_k02_whole_parses
set_option Elab.async false
set_option linter.all false
set_option maxRecDepth 100000
set_option maxHeartbeats 4000000
/-! plain mathematics of parses: no program in sight -/
namespace K02

/-- one string, one word: a list of letters -/
abbrev Wd := List Nat

/-- the parses of t over the words C, in order; n is fuel (the length of t is enough) -/
def psN (C : List Wd) : Nat → Wd → List (List Nat)
  | 0, t => if t = [] then [[]] else []
  | n + 1, t => if t = [] then [[]] else C.zipIdx.flatMap fun p => if t.take p.1.length = p.1 then (psN C n (t.drop p.1.length)).map (p.2 :: ·) else []
def ps (C : List Wd) (t : Wd) : List (List Nat) := psN C t.length t
/-- how many parses -/
def cnt (C : List Wd) (t : Wd) : Nat := (ps C t).length
/-- the string of a parse -/
def jn (C : List Wd) (p : List Nat) : Wd := p.flatMap fun i => C.getD i []

/-- every word has a letter -/
def PosW (C : List Wd) : Prop := ∀ w ∈ C, 1 ≤ w.length

theorem psN_nil {C : List Wd} {n : Nat} : psN C n [] = [[]] := by cases n <;> simp [psN]
theorem ps_nil {C : List Wd} : ps C [] = [[]] := psN_nil

theorem take_len {t w : Wd} (h : t.take w.length = w) : w.length ≤ t.length := by
  have := congrArg List.length h
  rw [List.length_take] at this
  omega

theorem psN_fuel {C : List Wd} (hC : PosW C) : ∀ (n m : Nat) (t : Wd), t.length ≤ n → t.length ≤ m → psN C n t = psN C m t
  | 0, m, t, hn, _ => by
    have : t = [] := List.eq_nil_of_length_eq_zero (by omega)
    subst this; rw [psN_nil, psN_nil]
  | n + 1, 0, t, _, hm => by
    have : t = [] := List.eq_nil_of_length_eq_zero (by omega)
    subst this; rw [psN_nil, psN_nil]
  | n + 1, m + 1, t, hn, hm => by
    unfold psN
    by_cases h0 : t = []
    · rw [if_pos h0, if_pos h0]
    · rw [if_neg h0, if_neg h0]
      unfold List.flatMap
      congr 1
      refine List.map_congr_left fun p hp => ?_
      by_cases ht : t.take p.1.length = p.1
      · rw [if_pos ht, if_pos ht]
        have hw : 1 ≤ p.1.length := hC _ (List.fst_mem_of_mem_zipIdx hp)
        have hl := take_len ht
        rw [psN_fuel hC n m (t.drop p.1.length) (by rw [List.length_drop]; omega) (by rw [List.length_drop]; omega)]
      · rw [if_neg ht, if_neg ht]

/-- the parses that begin with word number p.2 -/
def blkP (C : List Wd) (t : Wd) (p : Wd × Nat) : List (List Nat) := if t.take p.1.length = p.1 then (ps C (t.drop p.1.length)).map (p.2 :: ·) else []

theorem ps_step {C : List Wd} (hC : PosW C) {t : Wd} (h0 : t ≠ []) : ps C t = C.zipIdx.flatMap (blkP C t) := by
  have hl : 0 < t.length := List.length_pos_iff.mpr h0
  obtain ⟨n, hn⟩ : ∃ n, t.length = n + 1 := ⟨t.length - 1, by omega⟩
  have h : ps C t = psN C (n + 1) t := by unfold ps; rw [hn]
  rw [h]
  unfold psN
  rw [if_neg h0]
  unfold List.flatMap
  congr 1
  refine List.map_congr_left fun p hp => ?_
  unfold blkP
  by_cases ht : t.take p.1.length = p.1
  · rw [if_pos ht, if_pos ht]
    have hw : 1 ≤ p.1.length := hC _ (List.fst_mem_of_mem_zipIdx hp)
    have hl := take_len ht
    congr 1
    exact psN_fuel hC _ _ _ (by rw [List.length_drop]; omega) (by rw [List.length_drop]; omega)
  · rw [if_neg ht, if_neg ht]

/-- the number of parses of t that begin with word w -/
def wcnt (C : List Wd) (t w : Wd) : Nat := if t.take w.length = w then cnt C (t.drop w.length) else 0
theorem blk_len {C : List Wd} {t : Wd} {p : Wd × Nat} : (blkP C t p).length = wcnt C t p.1 := by
  unfold blkP wcnt
  by_cases h : t.take p.1.length = p.1
  · rw [if_pos h, if_pos h, List.length_map]; rfl
  · rw [if_neg h, if_neg h]; rfl
theorem cnt_nil {C : List Wd} : cnt C [] = 1 := by unfold cnt; rw [ps_nil]; rfl
theorem cnt_step {C : List Wd} (hC : PosW C) {t : Wd} (h0 : t ≠ []) : cnt C t = (C.map (wcnt C t)).sum := by
  unfold cnt
  rw [ps_step hC h0, List.length_flatMap]
  congr 1
  have e : C.map (wcnt C t) = (C.zipIdx.map Prod.fst).map (wcnt C t) := by rw [List.zipIdx_map_fst]
  rw [e, List.map_map]
  exact List.map_congr_left fun p _ => blk_len

/-- valid: numbers of words -/
def ValP (C : List Wd) (p : List Nat) : Prop := ∀ i ∈ p, i < C.length

theorem jn_nil {C : List Wd} : jn C [] = [] := rfl
theorem jn_cons {C : List Wd} {i : Nat} {p : List Nat} : jn C (i :: p) = C.getD i [] ++ jn C p := by
  unfold jn; rw [List.flatMap_cons]
theorem jn_append {C : List Wd} {p q : List Nat} : jn C (p ++ q) = jn C p ++ jn C q := by
  unfold jn; rw [List.flatMap_append]

theorem mem_zipIdx_iff {C : List Wd} {w : Wd} {i : Nat} : (w, i) ∈ C.zipIdx ↔ C[i]? = some w := by
  rw [List.mem_zipIdx_iff_getElem?]

theorem getD_of {C : List Wd} {i : Nat} {w : Wd} (h : C[i]? = some w) : C.getD i [] = w := by
  rw [List.getD_eq_getElem?_getD, h]; rfl

/-- what the listing lists -/
theorem mem_ps {C : List Wd} (hC : PosW C) : ∀ (p : List Nat) (t : Wd), p ∈ ps C t ↔ (ValP C p ∧ jn C p = t)
  | [], t => by
    by_cases h0 : t = []
    · subst h0; rw [ps_nil]; simp [ValP, jn_nil]
    · rw [ps_step hC h0, jn_nil]
      constructor
      · intro h
        obtain ⟨q, hq, hm⟩ := List.mem_flatMap.mp h
        unfold blkP at hm
        by_cases ht : t.take q.1.length = q.1
        · rw [if_pos ht] at hm
          obtain ⟨_, _, e⟩ := List.mem_map.mp hm
          cases e
        · rw [if_neg ht] at hm; cases hm
      · rintro ⟨_, e⟩; exact absurd e.symm h0
  | i :: p, t => by
    by_cases h0 : t = []
    · subst h0
      rw [ps_nil]
      constructor
      · intro h; simp at h
      · rintro ⟨hv, e⟩
        rw [jn_cons] at e
        have hi : i < C.length := hv i List.mem_cons_self
        have hw : C[i]? = some C[i] := List.getElem?_eq_getElem hi
        rw [getD_of hw] at e
        have := hC C[i] (List.getElem_mem hi)
        have e2 := congrArg List.length e
        rw [List.length_append, List.length_nil] at e2
        omega
    · rw [ps_step hC h0]
      constructor
      · intro h
        obtain ⟨⟨w, j⟩, hq, hm⟩ := List.mem_flatMap.mp h
        have hq' := mem_zipIdx_iff.mp hq
        unfold blkP at hm
        by_cases ht : t.take w.length = w
        · rw [if_pos ht] at hm
          obtain ⟨r, hr, e⟩ := List.mem_map.mp hm
          injection e with e1 e2
          have e1 : j = i := e1
          subst e1
          rw [e2] at hr
          obtain ⟨hv, hj⟩ := (mem_ps hC p _).mp hr
          have hjl : j < C.length := by
            rcases Nat.lt_or_ge j C.length with h | h
            · exact h
            · rw [List.getElem?_eq_none h] at hq'; cases hq'
          refine ⟨fun k hk => ?_, ?_⟩
          · rcases List.mem_cons.mp hk with e | e
            · rw [e]; exact hjl
            · exact hv k e
          · rw [jn_cons, getD_of hq', hj]
            have := List.take_append_drop w.length t
            rw [ht] at this
            exact this
        · rw [if_neg ht] at hm; cases hm
      · rintro ⟨hv, e⟩
        have hi : i < C.length := hv i List.mem_cons_self
        have hw : C[i]? = some C[i] := List.getElem?_eq_getElem hi
        rw [jn_cons, getD_of hw] at e
        refine List.mem_flatMap.mpr ⟨(C[i], i), mem_zipIdx_iff.mpr hw, ?_⟩
        unfold blkP
        have ht : t.take C[i].length = C[i] := by rw [← e, List.take_left']; rfl
        have hd : t.drop C[i].length = jn C p := by rw [← e, List.drop_left']; rfl
        rw [if_pos ht]
        refine List.mem_map.mpr ⟨p, (mem_ps hC p _).mpr ⟨fun k hk => hv k (List.mem_cons_of_mem _ hk), hd.symm⟩, rfl⟩

/-- the order of tuples -/
def lexN : List Nat → List Nat → Bool
  | [], [] => false
  | [], _ :: _ => true
  | _ :: _, [] => false
  | x :: xs, y :: ys => if x = y then lexN xs ys else decide (x < y)

theorem lexN_irrefl : ∀ x : List Nat, lexN x x = false
  | [] => rfl
  | a :: x => by unfold lexN; rw [if_pos rfl]; exact lexN_irrefl x
theorem lexN_asymm : ∀ x y : List Nat, lexN x y = true → lexN y x = false
  | [], [], h => by cases h
  | [], _ :: _, _ => rfl
  | _ :: _, [], h => by cases h
  | a :: x, b :: y, h => by
    unfold lexN at h ⊢
    by_cases e : a = b
    · rw [if_pos e] at h; rw [if_pos e.symm]; exact lexN_asymm x y h
    · rw [if_neg e] at h; rw [if_neg (fun z => e z.symm)]
      have := of_decide_eq_true h
      exact decide_eq_false (by omega)
theorem lexN_total : ∀ x y : List Nat, lexN x y = false → lexN y x = false → x = y
  | [], [], _, _ => rfl
  | [], _ :: _, h, _ => by cases h
  | _ :: _, [], _, h => by cases h
  | a :: x, b :: y, h, h' => by
    unfold lexN at h h'
    by_cases e : a = b
    · rw [if_pos e] at h; rw [if_pos e.symm] at h'; rw [e, lexN_total x y h h']
    · rw [if_neg e] at h; rw [if_neg (fun z => e z.symm)] at h'
      have h1 := of_decide_eq_false h
      have h2 := of_decide_eq_false h'
      omega
theorem lexN_neg_trans : ∀ x y z : List Nat, lexN y x = false → lexN z y = false → lexN z x = false
  | [], y, [], _, _ => rfl
  | [], [], _ :: _, _, h => h
  | [], b :: y, c :: z, _, _ => rfl
  | a :: x, [], z, h, _ => by cases h
  | a :: x, b :: y, [], _, h => by cases h
  | a :: x, b :: y, c :: z, h, h' => by
    unfold lexN at h h' ⊢
    by_cases e : c = a
    · rw [if_pos e]
      by_cases e2 : b = a
      · rw [if_pos e2] at h; rw [if_pos (e.trans e2.symm)] at h'; exact lexN_neg_trans x y z h h'
      · rw [if_neg e2] at h; rw [if_neg (fun q => e2 (q.symm.trans e))] at h'
        have := of_decide_eq_false h
        have := of_decide_eq_false h'
        omega
    · rw [if_neg e]
      by_cases e2 : b = a
      · rw [if_neg (fun q => e (q.trans e2))] at h'
        have := of_decide_eq_false h'
        exact decide_eq_false (by omega)
      · rw [if_neg e2] at h
        have h1 := of_decide_eq_false h
        by_cases e3 : c = b
        · exact decide_eq_false (by omega)
        · rw [if_neg e3] at h'
          have := of_decide_eq_false h'
          exact decide_eq_false (by omega)

theorem pw_map_cons {i : Nat} {l : List (List Nat)} (h : l.Pairwise fun x y => lexN x y = true) : (l.map (i :: ·)).Pairwise fun x y => lexN x y = true := by
  refine List.pairwise_map.mpr (h.imp fun {x y} h => ?_)
  unfold lexN; rw [if_pos rfl]; exact h

theorem pw_flat {F : Wd × Nat → List (List Nat)} (h1 : ∀ p, (F p).Pairwise fun x y => lexN x y = true) (h2 : ∀ p, ∀ x ∈ F p, ∃ r, x = p.2 :: r) : ∀ (C : List Wd) (k : Nat), ((C.zipIdx k).flatMap F).Pairwise fun x y => lexN x y = true
  | [], _ => by simp
  | w :: C, k => by
    rw [List.zipIdx_cons, List.flatMap_cons, List.pairwise_append]
    refine ⟨h1 _, pw_flat h1 h2 C (k + 1), fun a ha b hb => ?_⟩
    obtain ⟨r, rfl⟩ := h2 _ a ha
    obtain ⟨⟨v, j⟩, hq, hm⟩ := List.mem_flatMap.mp hb
    obtain ⟨r', rfl⟩ := h2 _ b hm
    have hj : k + 1 ≤ j := List.le_snd_of_mem_zipIdx hq
    unfold lexN
    rw [if_neg (by show ¬ k = j; omega)]
    exact decide_eq_true (by show k < j; omega)

/-- the listing stands in order -/
theorem ps_sorted {C : List Wd} (hC : PosW C) : ∀ (n : Nat) (t : Wd), t.length ≤ n → (ps C t).Pairwise fun x y => lexN x y = true
  | 0, t, h => by
    have : t = [] := List.eq_nil_of_length_eq_zero (by omega)
    subst this; rw [ps_nil]; simp
  | n + 1, t, h => by
    by_cases h0 : t = []
    · subst h0; rw [ps_nil]; simp
    · rw [ps_step hC h0]
      -- restrict blkP to members
      have hm : C.zipIdx.flatMap (blkP C t) = C.zipIdx.flatMap (fun p => if 1 ≤ p.1.length then blkP C t p else []) := by
        unfold List.flatMap
        congr 1
        refine List.map_congr_left fun p hp => ?_
        rw [if_pos (hC _ (List.fst_mem_of_mem_zipIdx hp))]
      rw [hm]
      refine pw_flat (fun p => ?_) (fun p x hx => ?_) C 0
      · by_cases hp : 1 ≤ p.1.length
        · rw [if_pos hp]
          unfold blkP
          by_cases ht : t.take p.1.length = p.1
          · rw [if_pos ht]
            exact pw_map_cons (ps_sorted hC n _ (by rw [List.length_drop]; omega))
          · rw [if_neg ht]; simp
        · rw [if_neg hp]; simp
      · by_cases hp : 1 ≤ p.1.length
        · rw [if_pos hp] at hx
          unfold blkP at hx
          by_cases ht : t.take p.1.length = p.1
          · rw [if_pos ht] at hx
            obtain ⟨r, _, e⟩ := List.mem_map.mp hx
            exact ⟨r, e.symm⟩
          · rw [if_neg ht] at hx; cases hx
        · rw [if_neg hp] at hx; cases hx
theorem ps_sorted' {C : List Wd} (hC : PosW C) (t : Wd) : (ps C t).Pairwise fun x y => lexN x y = true := ps_sorted hC t.length t (Nat.le_refl _)
theorem ps_nodup {C : List Wd} (hC : PosW C) (t : Wd) : (ps C t).Nodup := (ps_sorted' hC t).imp fun {x y} h e => by
  subst e; rw [lexN_irrefl] at h; cases h

/-- one sorted list alone has these items -/
theorem sorted_uniq : ∀ {l m : List (List Nat)}, (l.Pairwise fun x y => lexN y x = false) → (m.Pairwise fun x y => lexN y x = false) → l.Perm m → l = m
  | [], m, _, _, h => h.symm.eq_nil.symm
  | x :: l, [], _, _, h => absurd h.length_eq (by simp)
  | x :: l, y :: m, hl, hm, h => by
    have h1 : lexN x y = false := by
      rcases List.mem_cons.mp (h.mem_iff.mp (List.mem_cons_self (a := x) (l := l))) with e | hx
      · rw [e]; exact lexN_irrefl y
      · exact (List.pairwise_cons.mp hm).1 x hx
    have h2 : lexN y x = false := by
      rcases List.mem_cons.mp (h.mem_iff.mpr (List.mem_cons_self (a := y) (l := m))) with e | hy
      · rw [e]; exact lexN_irrefl x
      · exact (List.pairwise_cons.mp hl).1 y hy
    have e := lexN_total x y h1 h2
    subst e
    rw [sorted_uniq (List.pairwise_cons.mp hl).2 (List.pairwise_cons.mp hm).2 h.cons_inv]
theorem ps_weak {C : List Wd} (hC : PosW C) (t : Wd) : (ps C t).Pairwise fun x y => lexN y x = false := (ps_sorted' hC t).imp fun {x y} h => lexN_asymm x y h
theorem sorted_is {C : List Wd} (hC : PosW C) {t : Wd} {l m : List (List Nat)} (hl : l.Pairwise fun x y => lexN y x = false) (hp : l.Perm m) (hn : m.Nodup) (hm : ∀ p, p ∈ m ↔ (ValP C p ∧ jn C p = t)) : l = ps C t :=
  sorted_uniq hl (ps_weak hC t) (hp.trans ((List.perm_ext_iff_of_nodup hn (ps_nodup hC t)).mpr fun p => (hm p).trans (mem_ps hC p t).symm))

/-! ### nth_parse: a walk through the words -/
/-- the parses that begin with word number i or a later one -/
def restP (C : List Wd) (t : Wd) (i : Nat) : List (List Nat) := (C.zipIdx.drop i).flatMap (blkP C t)
theorem rest_zero {C : List Wd} (hC : PosW C) {t : Wd} (h0 : t ≠ []) : restP C t 0 = ps C t := by unfold restP; rw [List.drop_zero, ps_step hC h0]
theorem rest_end {C : List Wd} {t : Wd} {i : Nat} (h : C.length ≤ i) : restP C t i = [] := by
  unfold restP
  rw [List.drop_of_length_le (by rw [List.length_zipIdx]; exact h)]; rfl
theorem rest_step {C : List Wd} {t w : Wd} {i : Nat} (h : C[i]? = some w) : restP C t i = blkP C t (w, i) ++ restP C t (i + 1) := by
  unfold restP
  have hi : i < C.zipIdx.length := by
    rw [List.length_zipIdx]
    rcases Nat.lt_or_ge i C.length with q | q
    · exact q
    · rw [List.getElem?_eq_none q] at h; cases h
  rw [List.drop_eq_getElem_cons hi, List.flatMap_cons]
  have e : C.zipIdx[i] = (w, i) := by
    have h2 : C.zipIdx[i]? = some (w, i) := by rw [List.getElem?_zipIdx, h]; simp
    rw [List.getElem?_eq_getElem hi] at h2
    exact Option.some.inj h2
  rw [e]
/-- no match: on -/
theorem nth_no {C : List Wd} {t w : Wd} {i left : Nat} {q : List Nat} (h : C[i]? = some w) (hm : ¬ t.take w.length = w) (hq : (restP C t i)[left]? = some q) : (restP C t (i + 1))[left]? = some q := by
  rw [rest_step h] at hq
  unfold blkP at hq
  rw [if_neg hm, List.nil_append] at hq
  exact hq
/-- a match, the index lies behind -/
theorem nth_past {C : List Wd} {t w : Wd} {i left : Nat} {q : List Nat} (h : C[i]? = some w) (hm : t.take w.length = w) (hq : (restP C t i)[left]? = some q) (hl : cnt C (t.drop w.length) ≤ left) :
    (restP C t (i + 1))[left - cnt C (t.drop w.length)]? = some q := by
  rw [rest_step h] at hq
  have e : (blkP C t (w, i)).length = cnt C (t.drop w.length) := by rw [blk_len]; unfold wcnt; rw [if_pos hm]
  rw [List.getElem?_append_right (by rw [e]; exact hl), e] at hq
  exact hq
/-- a match, the index lies within -/
theorem nth_here {C : List Wd} {t w : Wd} {i left : Nat} {q : List Nat} (h : C[i]? = some w) (hm : t.take w.length = w) (hq : (restP C t i)[left]? = some q) (hl : left < cnt C (t.drop w.length)) :
    ∃ r, q = i :: r ∧ (ps C (t.drop w.length))[left]? = some r := by
  rw [rest_step h] at hq
  have e : (blkP C t (w, i)).length = cnt C (t.drop w.length) := by rw [blk_len]; unfold wcnt; rw [if_pos hm]
  rw [List.getElem?_append_left (by rw [e]; exact hl)] at hq
  unfold blkP at hq
  rw [if_pos hm, List.getElem?_map] at hq
  have hq2 : (Option.map (fun x => i :: x) (ps C (t.drop w.length))[left]?) = some q := hq
  cases hr : (ps C (t.drop w.length))[left]? with
  | none => rw [hr] at hq2; cases hq2
  | some r =>
    rw [hr] at hq2
    exact ⟨r, (Option.some.inj hq2).symm, rfl⟩

/-! ### index_of_parse -/
/-- the parses of t that begin with a word ahead of number n -/
def ahead (C : List Wd) (t : Wd) (n : Nat) : Nat := ((C.take n).map (wcnt C t)).sum
theorem ahead_zero {C : List Wd} {t : Wd} : ahead C t 0 = 0 := by unfold ahead; rw [List.take_zero]; rfl
theorem ahead_succ {C : List Wd} {t w : Wd} {n : Nat} (h : C[n]? = some w) : ahead C t (n + 1) = ahead C t n + wcnt C t w := by
  unfold ahead
  rw [List.take_add_one, h, Option.toList_some, List.map_append, List.sum_append]
  simp
/-- the index of a parse, reckoned -/
def rank (C : List Wd) : Wd → List Nat → Nat
  | _, [] => 0
  | t, n :: q => ahead C t n + rank C (t.drop (C.getD n []).length) q
theorem flat_split {F : Wd × Nat → List (List Nat)} {C : List Wd} {n : Nat} {w : Wd} (h : C[n]? = some w) : C.zipIdx.flatMap F = (C.zipIdx.take n).flatMap F ++ (F (w, n) ++ (C.zipIdx.drop (n + 1)).flatMap F) := by
  have hn : n < C.zipIdx.length := by
    rw [List.length_zipIdx]
    rcases Nat.lt_or_ge n C.length with q | q
    · exact q
    · rw [List.getElem?_eq_none q] at h; cases h
  have e : C.zipIdx[n] = (w, n) := by
    have h2 : C.zipIdx[n]? = some (w, n) := by rw [List.getElem?_zipIdx, h]; simp
    rw [List.getElem?_eq_getElem hn] at h2
    exact Option.some.inj h2
  have e2 : C.zipIdx = C.zipIdx.take n ++ ((w, n) :: C.zipIdx.drop (n + 1)) := by
    rw [← e, ← List.drop_eq_getElem_cons hn, List.take_append_drop]
  have e3 := congrArg (List.flatMap F) e2
  rw [List.flatMap_append, List.flatMap_cons] at e3
  exact e3
theorem ahead_len {C : List Wd} {t : Wd} {n : Nat} : ((C.zipIdx.take n).flatMap (blkP C t)).length = ahead C t n := by
  rw [List.length_flatMap]
  unfold ahead
  congr 1
  have e : C.take n = (C.zipIdx.take n).map Prod.fst := by rw [List.map_take, List.zipIdx_map_fst]
  rw [e, List.map_map]
  exact List.map_congr_left fun p _ => blk_len
theorem rank_get {C : List Wd} (hC : PosW C) : ∀ (p : List Nat) (t : Wd), ValP C p → jn C p = t → (ps C t)[rank C t p]? = some p
  | [], t, _, e => by
    rw [jn_nil] at e; subst e; rw [ps_nil]; rfl
  | n :: q, t, hv, e => by
    have hn : n < C.length := hv n List.mem_cons_self
    have hw : C[n]? = some C[n] := List.getElem?_eq_getElem hn
    have h1 : 1 ≤ C[n].length := hC _ (List.getElem_mem hn)
    rw [jn_cons, getD_of hw] at e
    have h0 : t ≠ [] := fun z => by
      rw [z] at e
      have := congrArg List.length e
      rw [List.length_append, List.length_nil] at this
      omega
    have ht : t.take C[n].length = C[n] := by rw [← e, List.take_left']; rfl
    have hd : t.drop C[n].length = jn C q := by rw [← e, List.drop_left']; rfl
    have ih := rank_get hC q (t.drop C[n].length) (fun k hk => hv k (List.mem_cons_of_mem _ hk)) hd.symm
    show (ps C t)[ahead C t n + rank C (t.drop (C.getD n []).length) q]? = _
    rw [ps_step hC h0, flat_split hw, getD_of hw, List.getElem?_append_right (by rw [ahead_len]; omega), ahead_len, Nat.add_sub_cancel_left]
    have hlt : rank C (t.drop C[n].length) q < (ps C (t.drop C[n].length)).length := by
      rcases Nat.lt_or_ge (rank C (t.drop C[n].length) q) (ps C (t.drop C[n].length)).length with z | z
      · exact z
      · rw [List.getElem?_eq_none z] at ih; cases ih
    have hb : blkP C t (C[n], n) = (ps C (t.drop C[n].length)).map (n :: ·) := if_pos ht
    rw [hb, List.getElem?_append_left (by rw [List.length_map]; exact hlt), List.getElem?_map, ih]
    rfl
theorem nodup_at {α : Type} {l : List α} (hN : l.Nodup) {i j : Nat} {x : α} (a : l[i]? = some x) (b : l[j]? = some x) : i = j := by
  obtain ⟨h1, e1⟩ := List.getElem?_eq_some_iff.mp a
  obtain ⟨h2, e2⟩ := List.getElem?_eq_some_iff.mp b
  exact (List.getElem_inj hN).mp (e1.trans e2.symm)
theorem rank_is {C : List Wd} (hC : PosW C) {t : Wd} {k : Nat} {p : List Nat} (h : (ps C t)[k]? = some p) : rank C t p = k := by
  obtain ⟨hv, e⟩ := (mem_ps hC p t).mp (List.mem_of_getElem? h)
  exact nodup_at (ps_nodup hC t) (rank_get hC p t hv e) h

/-! ### boundaries -/
/-- the places of a parse: behind each of its first words -/
def endsP (C : List Wd) : Nat → List Nat → List Nat
  | a, [] => [a]
  | a, n :: q => a :: endsP C (a + (C.getD n []).length) q
theorem mem_ends {C : List Wd} : ∀ (p : List Nat) (a x : Nat), x ∈ endsP C a p ↔ ∃ p1 p2, p = p1 ++ p2 ∧ x = a + (jn C p1).length
  | [], a, x => by
    unfold endsP
    constructor
    · intro h
      have : x = a := by simpa using h
      exact ⟨[], [], rfl, by rw [jn_nil]; simpa using this⟩
    · rintro ⟨p1, p2, e, hx⟩
      have : p1 = [] := (List.append_eq_nil_iff.mp e.symm).1
      subst this
      rw [jn_nil] at hx
      simpa using hx
  | n :: q, a, x => by
    unfold endsP
    rw [List.mem_cons, mem_ends q]
    constructor
    · rintro (h | ⟨p1, p2, e, hx⟩)
      · exact ⟨[], n :: q, rfl, by rw [jn_nil]; simpa using h⟩
      · refine ⟨n :: p1, p2, by rw [e]; rfl, ?_⟩
        rw [jn_cons, List.length_append]; omega
    · rintro ⟨p1, p2, e, hx⟩
      cases p1 with
      | nil => rw [jn_nil] at hx; exact .inl (by simpa using hx)
      | cons m p1 =>
        rw [List.cons_append] at e
        injection e with e1 e2
        subst e1
        rw [jn_cons, List.length_append] at hx
        exact .inr ⟨p1, p2, e2, by omega⟩
theorem ValP.app {C : List Wd} {p q : List Nat} : ValP C (p ++ q) ↔ ValP C p ∧ ValP C q := by
  unfold ValP
  constructor
  · intro h; exact ⟨fun i hi => h i (List.mem_append_left _ hi), fun i hi => h i (List.mem_append_right _ hi)⟩
  · rintro ⟨h1, h2⟩ i hi
    rcases List.mem_append.mp hi with e | e
    · exact h1 i e
    · exact h2 i e
/-- a parse with a boundary at x: one of what stands ahead, one of what stands behind -/
theorem cut_iff {C : List Wd} (hC : PosW C) {t : Wd} {x : Nat} (hx : x ≤ t.length) {p : List Nat} :
    (p ∈ ps C t ∧ x ∈ endsP C 0 p) ↔ ∃ p1 p2, p = p1 ++ p2 ∧ p1 ∈ ps C (t.take x) ∧ p2 ∈ ps C (t.drop x) := by
  constructor
  · rintro ⟨hp, he⟩
    obtain ⟨hv, hj⟩ := (mem_ps hC p t).mp hp
    obtain ⟨p1, p2, e, hl⟩ := (mem_ends p 0 x).mp he
    subst e
    rw [Nat.zero_add] at hl
    obtain ⟨v1, v2⟩ := ValP.app.mp hv
    rw [jn_append] at hj
    refine ⟨p1, p2, rfl, (mem_ps hC _ _).mpr ⟨v1, ?_⟩, (mem_ps hC _ _).mpr ⟨v2, ?_⟩⟩
    · rw [← hj, hl, List.take_left']; rfl
    · rw [← hj, hl, List.drop_left']; rfl
  · rintro ⟨p1, p2, e, h1, h2⟩
    subst e
    obtain ⟨v1, j1⟩ := (mem_ps hC _ _).mp h1
    obtain ⟨v2, j2⟩ := (mem_ps hC _ _).mp h2
    refine ⟨(mem_ps hC _ _).mpr ⟨ValP.app.mpr ⟨v1, v2⟩, ?_⟩, (mem_ends _ 0 x).mpr ⟨p1, p2, rfl, ?_⟩⟩
    · rw [jn_append, j1, j2, List.take_append_drop]
    · rw [j1, List.length_take, Nat.zero_add]; omega
/-- first words of one string: equal if they have equally many letters -/
theorem jn_inj_len {C : List Wd} (hC : PosW C) : ∀ (p q : List Nat) (r s : List Nat), ValP C p → ValP C q → p ++ r = q ++ s → (jn C p).length = (jn C q).length → p = q
  | [], [], _, _, _, _, _, _ => rfl
  | [], n :: q, _, _, _, hv, _, h => by
    have hn : n < C.length := hv n List.mem_cons_self
    have := hC _ (List.getElem_mem hn)
    rw [jn_nil, jn_cons, getD_of (List.getElem?_eq_getElem hn), List.length_append, List.length_nil] at h
    omega
  | n :: p, [], _, _, hv, _, _, h => by
    have hn : n < C.length := hv n List.mem_cons_self
    have := hC _ (List.getElem_mem hn)
    rw [jn_nil, jn_cons, getD_of (List.getElem?_eq_getElem hn), List.length_append, List.length_nil] at h
    omega
  | n :: p, m :: q, r, s, hv, hv', e, h => by
    rw [List.cons_append, List.cons_append] at e
    injection e with e1 e2
    subst e1
    rw [jn_cons, jn_cons, List.length_append, List.length_append] at h
    rw [jn_inj_len hC p q r s (fun i hi => hv i (List.mem_cons_of_mem _ hi)) (fun i hi => hv' i (List.mem_cons_of_mem _ hi)) e2 (by omega)]
def prodP (A B : List (List Nat)) : List (List Nat) := A.flatMap fun a => B.map (a ++ ·)
theorem prod_len (A B : List (List Nat)) : (prodP A B).length = A.length * B.length := by
  induction A with
  | nil => simp [prodP]
  | cons a A ih =>
    unfold prodP at ih ⊢
    rw [List.flatMap_cons, List.length_append, List.length_map, ih, List.length_cons, Nat.succ_mul]
    omega
theorem prod_nodup {A B : List (List Nat)} (hA : A.Nodup) (hB : B.Nodup) (h : ∀ a ∈ A, ∀ a' ∈ A, ∀ b ∈ B, ∀ b' ∈ B, a ++ b = a' ++ b' → a = a') : (prodP A B).Nodup := by
  induction A with
  | nil => simp [prodP]
  | cons a A ih =>
    obtain ⟨h1, h2⟩ := List.nodup_cons.mp hA
    have ih := ih h2 fun x hx x' hx' => h x (List.mem_cons_of_mem _ hx) x' (List.mem_cons_of_mem _ hx')
    show (List.flatMap _ (a :: A)).Nodup
    rw [List.flatMap_cons]
    refine List.nodup_append.mpr ⟨?_, ih, fun x hx y hy e => ?_⟩
    · refine List.pairwise_map.mpr (hB.imp fun {x y} hne e => hne (List.append_cancel_left e))
    · subst e
      obtain ⟨b, hb, e1⟩ := List.mem_map.mp hx
      obtain ⟨a', ha', hy'⟩ := List.mem_flatMap.mp hy
      obtain ⟨b', hb', e2⟩ := List.mem_map.mp hy'
      have := h a List.mem_cons_self a' (List.mem_cons_of_mem _ ha') b hb b' hb' (e1.trans e2.symm)
      subst this
      exact h1 ha'
theorem cut_count {C : List Wd} (hC : PosW C) {t : Wd} {x : Nat} (hx : x ≤ t.length) : ((ps C t).filter fun p => decide (x ∈ endsP C 0 p)).length = cnt C (t.take x) * cnt C (t.drop x) := by
  unfold cnt
  rw [← prod_len]
  refine List.Perm.length_eq ((List.perm_ext_iff_of_nodup ((ps_nodup hC t).filter _) (prod_nodup (ps_nodup hC _) (ps_nodup hC _) ?_)).mpr fun p => ?_)
  · intro a ha a' ha' b hb b' hb' e
    obtain ⟨v1, j1⟩ := (mem_ps hC _ _).mp ha
    obtain ⟨v2, j2⟩ := (mem_ps hC _ _).mp ha'
    exact jn_inj_len hC a a' b b' v1 v2 e (by rw [j1, j2])
  · rw [List.mem_filter, decide_eq_true_eq, cut_iff hC hx]
    unfold prodP
    rw [List.mem_flatMap]
    constructor
    · rintro ⟨p1, p2, e, h1, h2⟩
      exact ⟨p1, h1, List.mem_map.mpr ⟨p2, h2, e.symm⟩⟩
    · rintro ⟨p1, h1, h⟩
      obtain ⟨p2, h2, e⟩ := List.mem_map.mp h
      exact ⟨p1, p2, e.symm, h1, h2⟩
/-- some parse has a boundary at x -/
theorem some_iff {C : List Wd} (hC : PosW C) {t : Wd} {x : Nat} (hx : x ≤ t.length) : (∃ p ∈ ps C t, x ∈ endsP C 0 p) ↔ 0 < cnt C (t.take x) * cnt C (t.drop x) := by
  rw [← cut_count hC hx, List.length_pos_iff_exists_mem]
  constructor
  · rintro ⟨p, h1, h2⟩
    exact ⟨p, List.mem_filter.mpr ⟨h1, decide_eq_true h2⟩⟩
  · rintro ⟨p, h⟩
    obtain ⟨h1, h2⟩ := List.mem_filter.mp h
    exact ⟨p, h1, of_decide_eq_true h2⟩
/-- all parses have one -/
theorem all_iff {C : List Wd} (hC : PosW C) {t : Wd} {x : Nat} (hx : x ≤ t.length) : (∀ p ∈ ps C t, x ∈ endsP C 0 p) ↔ cnt C (t.take x) * cnt C (t.drop x) = cnt C t := by
  rw [← cut_count hC hx]
  unfold cnt
  rw [List.length_filter_eq_length_iff]
  constructor
  · intro h p hp; exact decide_eq_true (h p hp)
  · intro h p hp; exact of_decide_eq_true (h p hp)

/-! ### a bound -/
theorem cnt_le {C : List Wd} (hC : PosW C) {b : Nat} (hb : C.length ≤ b) (h1 : 1 ≤ b) : ∀ (n : Nat) (t : Wd), t.length ≤ n → cnt C t ≤ b ^ n
  | 0, t, h => by
    have : t = [] := List.eq_nil_of_length_eq_zero (by omega)
    subst this; rw [cnt_nil]; exact Nat.le_refl _
  | n + 1, t, h => by
    by_cases h0 : t = []
    · subst h0; rw [cnt_nil]; exact Nat.one_le_iff_ne_zero.mpr (Nat.ne_of_gt (Nat.pow_pos h1))
    · rw [cnt_step hC h0]
      have key : ∀ D : List Wd, (∀ w ∈ D, 1 ≤ w.length) → (D.map (wcnt C t)).sum ≤ D.length * b ^ n := by
        intro D
        induction D with
        | nil => intro _; simp
        | cons w D ih =>
          intro hD
          have hw : 1 ≤ w.length := hD w List.mem_cons_self
          have hl : 0 < t.length := List.length_pos_iff.mpr h0
          rw [List.map_cons, List.sum_cons, List.length_cons, Nat.succ_mul]
          have h2 := ih fun v hv => hD v (List.mem_cons_of_mem _ hv)
          have h3 : wcnt C t w ≤ b ^ n := by
            unfold wcnt
            by_cases q : t.take w.length = w
            · rw [if_pos q]
              exact cnt_le hC hb h1 n _ (by rw [List.length_drop]; omega)
            · rw [if_neg q]; exact Nat.zero_le _
          omega
      refine Nat.le_trans (key C hC) ?_
      rw [Nat.pow_succ, Nat.mul_comm]
      exact Nat.mul_le_mul_left _ hb

/-! ### the law's own listing, from the end -/
/-- what the rows ahead give for the place at: r k is the row at place k -/
def rowOf (C : List Wd) (t : Wd) (at_ : Nat) (r : Nat → List (List Nat)) : List (List Nat) :=
  C.zipIdx.flatMap fun p => if p.1.length ≤ at_ ∧ (t.take at_).drop (at_ - p.1.length) = p.1 then (r (at_ - p.1.length)).map (· ++ [p.2]) else []
/-- a row: all parses of the first letters, each once -/
def IsRow (C : List Wd) (t : Wd) (k : Nat) (l : List (List Nat)) : Prop := l.Nodup ∧ ∀ p, p ∈ l ↔ (ValP C p ∧ jn C p = t.take k)
theorem row_zero {C : List Wd} (hC : PosW C) {t : Wd} : IsRow C t 0 [[]] := by
  refine ⟨by simp, fun p => ?_⟩
  rw [List.take_zero, ← mem_ps hC, ps_nil]
theorem nodup_flat {F : Wd × Nat → List (List Nat)} (h1 : ∀ p, (F p).Nodup) (h2 : ∀ p, ∀ x ∈ F p, ∃ r, x = r ++ [p.2]) : ∀ (C : List Wd) (k : Nat), ((C.zipIdx k).flatMap F).Nodup
  | [], _ => by simp
  | w :: C, k => by
    rw [List.zipIdx_cons, List.flatMap_cons]
    refine List.nodup_append.mpr ⟨h1 _, nodup_flat h1 h2 C (k + 1), fun a ha b hb e => ?_⟩
    subst e
    obtain ⟨r, e1⟩ := h2 _ a ha
    obtain ⟨⟨v, j⟩, hq, hm⟩ := List.mem_flatMap.mp hb
    obtain ⟨r', e2⟩ := h2 _ a hm
    have hj : k + 1 ≤ j := List.le_snd_of_mem_zipIdx hq
    have e3 := (List.append_inj' (e1.symm.trans e2) rfl).2
    injection e3 with e4 _
    have e4 : k = j := e4
    omega
theorem row_step {C : List Wd} (hC : PosW C) {t : Wd} {a : Nat} (ha : 1 ≤ a) (hal : a ≤ t.length) {r : Nat → List (List Nat)} (hr : ∀ k, k < a → IsRow C t k (r k)) : IsRow C t a (rowOf C t a r) := by
  have hpos : ∀ p ∈ C.zipIdx, 1 ≤ p.1.length := fun p hp => hC _ (List.fst_mem_of_mem_zipIdx hp)
  refine ⟨?_, fun p => ?_⟩
  · have e : rowOf C t a r = C.zipIdx.flatMap fun p => if 1 ≤ p.1.length then (if p.1.length ≤ a ∧ (t.take a).drop (a - p.1.length) = p.1 then (r (a - p.1.length)).map (· ++ [p.2]) else []) else [] := by
      unfold rowOf List.flatMap
      congr 1
      refine List.map_congr_left fun p hp => ?_
      rw [if_pos (hpos p hp)]
    rw [e]
    refine nodup_flat (fun p => ?_) (fun p x hx => ?_) C 0
    · by_cases h1 : 1 ≤ p.1.length
      · rw [if_pos h1]
        by_cases h : p.1.length ≤ a ∧ (t.take a).drop (a - p.1.length) = p.1
        · rw [if_pos h]
          exact List.pairwise_map.mpr ((hr _ (by omega)).1.imp fun {x y} hne e => hne (List.append_cancel_right e))
        · rw [if_neg h]; simp
      · rw [if_neg h1]; simp
    · by_cases h1 : 1 ≤ p.1.length
      · rw [if_pos h1] at hx
        by_cases h : p.1.length ≤ a ∧ (t.take a).drop (a - p.1.length) = p.1
        · rw [if_pos h] at hx
          obtain ⟨q, _, e⟩ := List.mem_map.mp hx
          exact ⟨q, e.symm⟩
        · rw [if_neg h] at hx; cases hx
      · rw [if_neg h1] at hx; cases hx
  · unfold rowOf
    rw [List.mem_flatMap]
    constructor
    · rintro ⟨⟨w, j⟩, hq, hm⟩
      have hw := hpos _ hq
      have hq' := mem_zipIdx_iff.mp hq
      by_cases h : w.length ≤ a ∧ (t.take a).drop (a - w.length) = w
      · rw [if_pos h] at hm
        obtain ⟨q, hq2, e⟩ := List.mem_map.mp hm
        subst e
        obtain ⟨hv, hj⟩ := ((hr _ (by show a - w.length < a; simp at hw; omega)).2 q).mp hq2
        have hjl : j < C.length := by
          rcases Nat.lt_or_ge j C.length with z | z
          · exact z
          · rw [List.getElem?_eq_none z] at hq'; cases hq'
        refine ⟨ValP.app.mpr ⟨hv, fun i hi => ?_⟩, ?_⟩
        · have : i = j := by simpa using hi
          rw [this]; exact hjl
        · rw [jn_append, jn_cons, jn_nil, getD_of hq', hj, List.append_nil]
          have e2 : t.take (a - w.length) = (t.take a).take (a - w.length) := by rw [List.take_take]; congr 1; omega
          have h3 := List.take_append_drop (a - w.length) (t.take a)
          rw [h.2, ← e2] at h3
          exact h3
      · rw [if_neg h] at hm; cases hm
    · rintro ⟨hv, hj⟩
      have hne : p ≠ [] := fun z => by
        rw [z, jn_nil] at hj
        have := congrArg List.length hj
        rw [List.length_take, List.length_nil] at this
        omega
      obtain ⟨q, j, e⟩ : ∃ q j, p = q ++ [j] := ⟨p.dropLast, p.getLast hne, (List.dropLast_concat_getLast hne).symm⟩
      subst e
      obtain ⟨v1, v2⟩ := ValP.app.mp hv
      have hjl : j < C.length := v2 j (by simp)
      have hw : C[j]? = some C[j] := List.getElem?_eq_getElem hjl
      have h1 : 1 ≤ C[j].length := hC _ (List.getElem_mem hjl)
      rw [jn_append, jn_cons, jn_nil, getD_of hw, List.append_nil] at hj
      have hl := congrArg List.length hj
      rw [List.length_append, List.length_take] at hl
      have hle : C[j].length ≤ a := by omega
      have hd : (t.take a).drop (a - C[j].length) = C[j] := by
        rw [← hj, List.drop_left']; omega
      have htk : t.take (a - C[j].length) = jn C q := by
        have e2 : t.take (a - C[j].length) = (t.take a).take (a - C[j].length) := by rw [List.take_take]; congr 1; omega
        rw [e2, ← hj, List.take_left']; omega
      refine ⟨(C[j], j), mem_zipIdx_iff.mpr hw, ?_⟩
      rw [if_pos ⟨hle, hd⟩]
      exact List.mem_map.mpr ⟨q, ((hr _ (by show a - C[j].length < a; omega)).2 q).mpr ⟨v1, htk.symm⟩, rfl⟩
end K02
/-! Rules that the layer does not have: a text taken no time or once, enumerate of a tuple, sorted of tuples of numbers of any lengths. -/
namespace K02
open PySem PySem.Spec PyProof.Rows L2

/-! ### z * 0, z * 1 -/
def rMul01 : R2 := fun x y H Q => ∃ z i, x = .str z ∧ y = .int i ∧ ((i = 0 ∧ Q (.str Str.empty) H) ∨ (i = 1 ∧ z.length ≤ sizeLine ∧ Q (.str z) H))
theorem op_mul01 {X : Cx} : OpR X (binaryOp .Mult) rMul01 := by
  intro pins s σ H x y v u Q I rx ry h
  obtain ⟨z, i, rfl, rfl, h⟩ := h
  obtain ⟨t, rfl⟩ := rx
  obtain ⟨t2, rfl⟩ := ry
  rcases h with ⟨rfl, q⟩ | ⟨rfl, hz, q⟩
  · exact PySem.P.mul_str_none (by decide) (by decide) ⟨.str Str.empty, H, I.tok _, ⟨_, rfl⟩, q⟩
  · refine PySem.P.mul_str (by decide) (fun _ e => by simp at e) (fun _ e => by simp at e) ?_
    rw [if_neg (by decide)]
    rw [if_pos (by rfl)]
    exact ⟨.str z, H, I, ⟨t, rfl⟩, q⟩

/-! ### enumerate of a tuple -/
/-- the tuple at a, its items in new pairs -/
def ItEn (K : PySem.W.Frag) (a : Addr) : It where
  go := fun i H => ∃ (xs : List V) (x : V), SqT K H a xs ∧ xs[i]? = some x
  yld := fun i H v H' => ∃ T x, v = .ref T ∧ H T = none ∧ H' = upd H T (.tup [.int (i : Nat), x]) ∧ ∀ xs, SqT K H a xs → xs[i]? = some x
  stop := fun i H => ∃ xs : List V, SqT K H a xs ∧ xs.length = i
/-- the state of such an iterator: its own two objects -/
def EnSt (a e it : Addr) (i : Nat) (h : Heap) : Prop := (∃ old, IsEnum h e it ((i : Nat) : Int) old) ∧ h.IsTupleIter it a i ∧ e ≠ it ∧ a ≠ it ∧ a ≠ e

theorem enum_new_tup (l : Addr) (items : Array Value) (n : Nat) (dct : Option Addr) (sl : Array (Option Value)) :
    Meets (Builtin.«enumerate.__new__» ⟨[.type "enumerate", .ref l], []⟩) (fun _ R s => s.heap.get? l = some { cls := .type "tuple", dict := dct, data := .seq items n, slots := sl } ∧
      R (.ok (.ret (.ref (s.heap.push { cls := .type "tuple_iterator", data := .fields #[.ref l, .int 0 0] }).objs.size)))
        { s with heap := (s.heap.push { cls := .type "tuple_iterator", data := .fields #[.ref l, .int 0 0] }).push { cls := .type "enumerate", data := .fields #[.none, .bool false, .ref s.heap.objs.size, rawInt 0, .none, .none] } }) :=
  .of_wp fun prog w A R s h => by
    obtain ⟨hp, g, d, tk, os⟩ := s
    obtain ⟨hl, h⟩ := h
    have sb := sub_enumerate
    have tt : Heap.IsTuple (Shared.heap ⟨hp, g, d, tk, os⟩) l items := ⟨_, hl, rfl, n, rfl⟩
    wp_walk using AutoSeq1.wpAny_loadPart' hl
    refine wpAny_stack_any fun st => wpAny_pure ?_
    split
    · rename_i c _ _ _ _ _
      cases (c == Value.type "enumerate") <;> (wp_walk using AutoSeq1.wpAny_loadPart' hl, wpAny_pyIter_tuple tt; exact ⟨_, rfl, h⟩)
    · wp_walk using AutoSeq1.wpAny_loadPart' hl, wpAny_pyIter_tuple tt
      exact ⟨_, rfl, h⟩
section
variable {prog : Program} {w : World} {A : Around} {E : Value → Shared → Prop} {s : Shared}
theorem enum_of_tup {l : Addr} {items : Array Value} {Q : Value → Shared → Prop} (hT : s.heap.IsTuple l items)
    (h : ∀ h', IsEnum h' (s.heap.objs.size + 1) s.heap.objs.size 0 .none → h'.IsTupleIter s.heap.objs.size l 0 →
      (∀ b o, s.heap.get? b = some o → h'.get? b = some o) → Q (.ref (s.heap.objs.size + 1)) { s with heap := h' }) :
    wpAny (model prog w) A (call (.type "enumerate") [.ref l]) Q E s := by
  obtain ⟨⟨c, dct, dt, sl⟩, hl, hc, n, hd⟩ := hT
  have hc2 : c = .type "tuple" := hc
  have hd2 : dt = .seq items n := hd
  subst hc2 hd2
  have size1 : (s.heap.push { cls := .type "tuple_iterator", data := .fields #[.ref l, .int 0 0] }).objs.size = s.heap.objs.size + 1 := Heap.size_push ..
  have made : IsEnum ((s.heap.push { cls := .type "tuple_iterator", data := .fields #[.ref l, .int 0 0] }).push
      { cls := .type "enumerate", data := .fields #[.none, .bool false, .ref s.heap.objs.size, rawInt 0, .none, .none] }) (s.heap.objs.size + 1) s.heap.objs.size 0 .none := by
    have q := Heap.get?_push_size (s.heap.push { cls := .type "tuple_iterator", data := .fields #[.ref l, .int 0 0] })
      (o := { cls := .type "enumerate", data := .fields #[.none, .bool false, .ref s.heap.objs.size, rawInt 0, .none, .none] }) rfl
    rw [size1] at q
    exact q
  refine callType_new F.called_enumerate (by decide) (F.typeCall_enumerate_1 _) (F.newCall_enumerate_1 _) (fun obj => F.args_object_init_2 obj _) F.entry_enumerate_new (enum_new_tup l items n dct sl) ⟨hl, ?_⟩
  show _ ∧ _
  rw [size1]
  exact ⟨⟨_, made, rfl⟩, h _ made ⟨_, Heap.get?_push_of_some _ (Heap.get?_push_size _ rfl), rfl, rfl⟩ fun b o x => Heap.get?_push_of_some _ (Heap.get?_push_of_some _ x)⟩
end
theorem turn_en {P : Program} {w : World} {K : PySem.W.Frag} {elts : List Expr} {kk : Nat} {tpos : Pos} (a e it : Addr) :
    Turn P w K (.Tuple elts kk tpos) (ItEn K a) [e, it] e (EnSt a e it) where
  mem := List.mem_cons_self
  obj := by
    rintro i h ⟨⟨old, he⟩, ⟨o, ho, hc, hd⟩, _⟩ b hb
    rcases List.mem_cons.mp hb with rfl | hb
    · exact ⟨_, he, fun v q => nomatch q⟩
    · obtain rfl : b = it := by simpa using hb
      exact ⟨o, ho, fun v q => by rw [hd] at q; cases q⟩
  keep := by
    rintro i h h' ⟨⟨old, he⟩, hi, hne⟩ k
    exact ⟨⟨old, k e (by simp) _ he⟩, hi.at fun o q => k it (by simp) o q, hne⟩
  item := by
    intro X hP hw hK hc i pins s σ H E I hf st hg
    subst hP hw hK
    obtain ⟨⟨old, he⟩, hit, hne, hai, hae⟩ := st
    obtain ⟨xs, x, hq, hx⟩ := hg
    obtain ⟨its, rv, p, hz⟩ := I.tuple hq
    obtain ⟨u, hu, ru⟩ := rv.get hx
    have hhd : X.A.in1.handled = none := I.ok.hd hc
    have hel : e < s.heap.objs.size := Heap.lt_size he
    have hil : it < s.heap.objs.size := by
      obtain ⟨_, q, _⟩ := hit
      exact Heap.lt_size q
    have hlt : i < its.toArray.size := by
      rw [List.size_toArray, ← rv.length]
      rcases Nat.lt_or_ge i xs.length with z | z
      · exact z
      · rw [List.getElem?_eq_none z] at hx
        cases hx
    refine wpAny_pyNext_enum_itemD (D := Draws.tuple hhd it a hai its.toArray) he ⟨hit, p⟩ hlt hne (by simp; exact ⟨hne, Ne.symm hae⟩) fun y h1 tk hP ho hst hT hsz hk => ?_
    have ey : y = u := by
      have hP' : its.toArray[i]? = some y := hP
      have hu' : its.toArray[i]? = some u := by simpa using hu
      rw [hu'] at hP'
      exact (Option.some.inj hP').symm
    subst ey
    refine ⟨_, rfl, wpAny_letOwnedTupleGo_enum (s := { s with heap := h1, toks := tk + 1 }) ho fun h2 he2 sb => ?_⟩
    have hT2 : h2.get? s.heap.objs.size = some { cls := .type "tuple", data := .seq #[.int i tk, y] } := (sb.2 _ (Nat.ne_of_gt hel)).trans hT
    have new : ObjOk X.prog X.w (upd H s.heap.objs.size (.tup [.int (i : Nat), x])) h2 s.heap.objs.size (.tup [.int (i : Nat), x]) :=
      ⟨(by decide : 2 ≤ sizeLine), [.int i tk, y], .cons ⟨_, rfl⟩ (.cons ru .nil), ⟨_, hT2, rfl, _, rfl⟩⟩
    have I1 : Inv X pins σ (upd H s.heap.objs.size (.tup [.int (i : Nat), x])) { s with heap := h2, toks := tk + 1 } :=
      I.turnedNew (ch := [e, it]) (fun b ob hb q => (sb.2 b (fun z => hb (by rw [z]; simp))).trans (hk b ob (fun z => hb (by rw [z]; simp)) (fun z => hb (by rw [z]; simp)) q)) hf (Nat.le_refl _) new
    refine ⟨.ref s.heap.objs.size, _, I1, rfl, ⟨_, x, rfl, I.hok.fresh (Nat.le_refl _), rfl, fun ys hy => by rw [I.tuple_inj hy hq]; exact hx⟩, ⟨⟨y, ?_⟩, hst.1.at fun o q => (sb.2 it (Ne.symm hne)).trans q, hne, hai, hae⟩, fun b hb => ?_⟩
    · have e1 : ((i + 1 : Nat) : Int) = (i : Int) + 1 := by omega
      rw [e1]
      exact he2
    · have hb' : b < s.heap.objs.size := by
        rcases List.mem_cons.mp hb with z | z
        · rw [z]
          exact hel
        · have z' : b = it := by simpa using z
          rw [z']
          exact hil
      rw [upd_ne (Nat.ne_of_lt hb')]
      exact (hf b hb).1
  done := by
    intro X hP hw hK hc i pins s σ H E I hf st hg
    subst hP hw hK
    obtain ⟨⟨old, he⟩, hit, hne, hai, hae⟩ := st
    obtain ⟨xs, hq, hx⟩ := hg
    obtain ⟨its, rv, p, hz⟩ := I.tuple hq
    have hhd : X.A.in1.handled = none := I.ok.hd hc
    obtain ⟨f0, f1, f2, f3, f4, f5⟩ := hf it (by simp)
    have hl : its.toArray.size = i := by
      rw [List.size_toArray, ← rv.length]
      exact hx
    refine wpAny_pyNext_enum_endD (D := Draws.tuple hhd it a hai its.toArray) he ⟨by rw [hl]; exact hit, p⟩ fun h' eb => ?_
    exact ⟨rfl, I.turned (t' := s.toks) (fun b o hb q => eb b o hb q) f0 f1 f3 f4 f5⟩
  self := fun A i s Q E st h => let ⟨⟨_, he⟩, _⟩ := st; wpAny_pyIter_enum he h
def iEn (K : PySem.W.Frag) (ta : TA) : TI := fun σ H R => ta σ H fun vs H1 => ∃ a xs, vs = [.ref a] ∧ SqT K H1 a xs ∧ R (ItEn K a) H1
theorem pi_en {X : Cx} {e : Expr} {ta : TA} {p pos tpos : Pos} {elts : List Expr} {kk : Nat} (hg : Gl X "enumerate") (hm : X.mg "enumerate" = none) (ha : PA X [e] ta) (hs : starEach [e] X.env = [(false, eval e X.env)] := by rfl) :
    PI X (.Tuple elts kk tpos) (.Call (.Name "enumerate" p) [e] [] pos) (iEn X.K ta) := by
  refine ⟨fun pins s σ H R I h => ?_⟩
  refine Call_ (ld_blt I hg hm boot_enumerate (PyProof.Rows.callWith_type1 (thn (ha.run pos pins s σ H _ I h) fun us s1 ⟨vs, H1, I1, r1, q1⟩ => ?_) hs rfl))
  obtain ⟨a, xs, rfl, hq, q⟩ := q1
  obtain ⟨u, rfl, ru⟩ := vals1 r1
  obtain rfl : u = Value.ref a := ru
  obtain ⟨its, rv, p', hz⟩ := I1.tuple hq
  have hal : a < s1.heap.objs.size := p'.lt
  refine enum_of_tup p' fun h' he hit hk => wpAny_pyIter_enum he ?_
  have I2 : Inv X pins σ H1 { s1 with heap := h' } := I1.kept (t' := s1.toks) hk
  refine ⟨s1.heap.objs.size + 1, [s1.heap.objs.size + 1, s1.heap.objs.size], _, _, H1, rfl, I2, turn_en a (s1.heap.objs.size + 1) s1.heap.objs.size, ⟨⟨.none, he⟩, hit, Nat.succ_ne_self _, Nat.ne_of_lt hal, Nat.ne_of_lt (Nat.lt_succ_of_lt hal)⟩, fun b hb => ?_, q⟩
  have hle : s1.heap.objs.size ≤ b := by
    rcases List.mem_cons.mp hb with z | z
    · rw [z]
      exact Nat.le_succ _
    · have z' : b = s1.heap.objs.size := by simpa using z
      rw [z']
      exact Nat.le_refl _
  exact I1.fpOk hle (I1.hok.fresh hle)
theorem walk_en {K : PySem.W.Frag} {a : Addr} {xs : List V} : Walk (ItEn K a) xs.length (fun H => SqT K H a xs) (YPair (fun i => some (.int (i : Nat))) (fun i => xs[i]?)) := by
  refine ⟨fun i _ hi q => ⟨xs, xs[i], q, by simp [hi]⟩, fun _ q => ⟨xs, q, rfl⟩, fun i H v H' _ q y => ?_⟩
  obtain ⟨T, x, h1, h2, h3, h4⟩ := y
  exact ⟨T, .int (i : Nat), x, h1, h2, h3, rfl, h4 xs q⟩
end K02

/-! ### sorted of tuples of numbers, of any lengths, any number of them -/
namespace K02
open PySem PyProof.Rows Srt SrtO
/-- a tuple of numbers as values -/
abbrev pV (p : List Nat) : List L2.V := p.map fun n => L2.V.int (n : Nat)
/-- v: a tuple of the numbers p -/
def IsNT (h : Heap) (v : Value) (p : List Nat) : Prop := ∃ a o its n, v = .ref a ∧ h.get? a = some o ∧ o.cls = .type "tuple" ∧ o.data = .seq its n ∧ IntsAre its.toList (p.map fun k : Nat => (k : Int))
theorem IsNT.keeps {h h' : Heap} {v : Value} {p : List Nat} (x : IsNT h v p) (k : ∀ b o, h.get? b = some o → o.cls = .type "tuple" → h'.get? b = some o) : IsNT h' v p := by
  obtain ⟨a, o, its, n, e, ho, hc, hd⟩ := x
  exact ⟨a, o, its, n, e, k _ _ ho hc, hc, hd⟩
section
variable {prog : Program} {w : World} {A : Around} {E : Value → Shared → Prop} {s : Shared}
theorem kat_nums {b : Bool} {Q : Bool → Shared → Prop} : ∀ (p q : List Nat) (xs ys : List Value) (i : Nat), IntsAre xs (p.map fun k : Nat => (k : Int)) → IntsAre ys (q.map fun k : Nat => (k : Int)) →
    Q (lexN p q) s → PySem.W.KatLex prog w A b (decide (p.length < q.length)) Q (xs.zip ys) i s
  | [], [], _, _, i, .nil, .nil, h => PySem.W.kat_nil h
  | [], d :: q, _, _, i, .nil, .cons _ _ _, h => by
    have e : decide (([] : List Nat).length < (d :: q).length) = true := decide_eq_true (Nat.succ_pos q.length)
    rw [e]
    exact PySem.W.kat_nil h
  | c :: p, [], _, _, i, .cons _ _ _, .nil, h => by
    have e : decide ((c :: p).length < ([] : List Nat).length) = false := decide_eq_false (Nat.not_lt_zero _)
    rw [e]
    exact PySem.W.kat_nil h
  | c :: p, d :: q, _, _, i, .cons _ t (vs := xs) hx, .cons _ u (vs := ys) hy, h => by
    have e : decide ((c :: p).length < (d :: q).length) = decide (p.length < q.length) := decide_eq_decide.mpr (by rw [List.length_cons, List.length_cons]; omega)
    rw [e]
    show PySem.W.KatLex prog w A b _ Q ((Value.int (c : Int) t, Value.int (d : Int) u) :: xs.zip ys) i s
    refine PySem.W.kat_cons (wpAny_eqBool_int ?_)
    by_cases z : c = d
    · subst z
      rw [beq_self_eq_true]
      have l : lexN (c :: p) (c :: q) = lexN p q := if_pos rfl
      rw [l] at h
      exact PySem.W.kat_yes (kat_nums p q xs ys (i + 1) hx hy h)
    · have l : lexN (c :: p) (d :: q) = decide (c < d) := if_neg z
      rw [l] at h
      have n : ((c : Int) == (d : Int)) = false := beq_eq_false_iff_ne.mpr (by omega)
      rw [n]
      refine PySem.W.kat_no (TS.oneLt_ints _ ?_)
      have m : decide ((c : Int) < (d : Int)) = decide (c < d) := decide_eq_decide.mpr (by omega)
      rw [m]
      exact h
theorem ints_len : ∀ {xs : List Value} {ns : List Int}, IntsAre xs ns → xs.length = ns.length
  | _, _, .nil => rfl
  | _, _, .cons _ _ r => by rw [List.length_cons, List.length_cons, ints_len r]
theorem swo_lexN (k : Value → List Nat) : Swo fun v u => lexN (k v) (k u) := ⟨fun x y h => lexN_asymm _ _ h, fun x y z h1 h2 => lexN_neg_trans _ _ _ h1 h2⟩
theorem nums_cmp {vs : List Value} {k : Value → List Nat} (hp : ∀ v ∈ vs, IsNT s.heap v (k v)) : Cmp prog w A s (tuples' true) (fun p => p.1 ∈ vs) (lt2 fun v u => lexN (k v) (k u)) := by
  intro p q hm hm'
  obtain ⟨a, o, its, n, e, ho, hc, hd, hi⟩ := hp _ hm
  obtain ⟨a', o', its', n', e', ho', hc', hd', hi'⟩ := hp _ hm'
  show wpAny (model prog w) A (keyLt' (tuples' true) p.1 q.1) (fun r s' => s' = s ∧ r = lexN (k p.1) (k q.1)) (fun _ _ => False) s
  generalize hkp : k p.1 = x at hi ⊢
  generalize hkq : k q.1 = y at hi' ⊢
  rw [e, e']
  refine PySem.W.kat_lt ho hd ho' hd' ?_
  have l1 := ints_len hi
  have l2 := ints_len hi'
  rw [List.length_map, Array.length_toList] at l1 l2
  rw [l1, l2]
  exact kat_nums x y its.toList its'.toList 0 hi hi' ⟨rfl, rfl⟩
theorem nums_firsts {h : Heap} {k : Value → List Nat} : ∀ {vs : List Value}, (∀ v ∈ vs, IsNT h v (k v)) → (∀ v ∈ vs, k v ≠ []) → ∃ fs : List Value, PySem.W.KatTups h vs fs ∧ fs.length = vs.length ∧ ∀ f ∈ fs, ∃ x t, f = Value.int x t
  | [], _, _ => ⟨[], PySem.W.KatTups.nil, rfl, fun _ hm => by simp at hm⟩
  | v :: vs, hp, hn => by
    obtain ⟨fs, h1, h2, h3⟩ := nums_firsts (vs := vs) (fun u hu => hp u (List.mem_cons_of_mem _ hu)) fun u hu => hn u (List.mem_cons_of_mem _ hu)
    obtain ⟨a, o, its, n, e, ho, hc, hd, hi⟩ := hp v List.mem_cons_self
    have hne := hn v List.mem_cons_self
    subst e
    generalize k (Value.ref a) = x at hi hne
    cases x with
    | nil => exact absurd rfl hne
    | cons c r =>
      obtain ⟨its⟩ := its
      cases hi with
      | @cons _ t ws _ hi =>
        exact ⟨.int (c : Int) t :: fs, PySem.W.KatTups.cons ho hc hd rfl h1, by rw [List.length_cons, List.length_cons, h2], fun f hm => by
          rcases List.mem_cons.mp hm with rfl | hm
          · exact ⟨_, t, rfl⟩
          · exact h3 f hm⟩
theorem nums_sortable {a : Addr} {vs : List Value} {k : Value → List Nat} (h0 : 0 < vs.length) (hp : ∀ v ∈ vs, IsNT s.heap v (k v)) (hn : ∀ v ∈ vs, k v ≠ []) (ha : ∀ o, s.heap.get? a = some o → o.cls ≠ .type "tuple") :
    SortableO prog w A s a vs fun v u => lexN (k v) (k u) := by
  intro h' keep
  have hp' : ∀ v ∈ vs, IsNT h' v (k v) := fun v hm => (hp v hm).keeps fun b o e c => keep b o (fun z => by subst z; exact ha o e c) e
  obtain ⟨fs, h1, h2, h3⟩ := nums_firsts hp' hn
  refine ⟨tuples' true, fun Q E hq => ?_, nums_cmp hp'⟩
  refine PySem.W.kat_kind (T := .type "int") h1 (by omega) (fun f hm => ?_) (by rfl) ?_
  · obtain ⟨x, t, rfl⟩ := h3 f hm
    exact PySem.W.Looks.now
  · have e : (Value.type "int" != Value.type "tuple") = true := by first | decide +kernel | rfl | decide
    rw [e]
    exact hq
end
end K02
namespace K02
open PySem PySem.Spec PyProof.Rows L2
/-- sorted(xs), xs a list of tuples of numbers (k says which; none is empty where there are two): a new list in order -/
def rSortN (K : PySem.W.Frag) : List V → Hp → VK → Prop := fun vs H Q => ∃ (a : Addr) (xs : List V) (k : V → List Nat), vs = [V.ref a] ∧ SqL K H a xs ∧ (∀ x ∈ xs, ∃ t, x = V.ref t ∧ H t = some (.tup (pV (k x)))) ∧ (2 ≤ xs.length → ∀ x ∈ xs, k x ≠ []) ∧
  ∀ ys p, (ys.Pairwise fun x y => lexN (k y) (k x) = false) → ys.Perm xs → H p = none → Q (.ref p) (upd H p (.lst ys))
theorem cr_sortN {X : Cx} : CallR X (.builtin "sorted") (rSortN X.K) := by
  intro pins s σ H vs us Q I r h
  obtain ⟨a, xs, k, rfl, hs, hx, hn, q⟩ := h
  obtain ⟨its, rv, hl, hz⟩ := I.list hs
  obtain ⟨u, rfl, ru⟩ := vals1 r
  obtain rfl : u = Value.ref a := ru
  obtain ⟨e1, e2⟩ := refs_back rv fun x m => by
    obtain ⟨t, e, _⟩ := hx x m
    exact ⟨t, e⟩
  have nt : ∀ v ∈ its, IsNT s.heap v (k (backV v)) := fun v hv => by
    obtain ⟨t, rfl⟩ := e2 v hv
    have hm : V.ref t ∈ xs := by
      rw [e1]
      exact List.mem_map.mpr ⟨_, hv, rfl⟩
    obtain ⟨t', e, ht⟩ := hx _ hm
    cases e
    obtain ⟨_, its2, r2, o, ho, hc, n, hd⟩ := I.hok _ _ ht
    refine ⟨t, o, _, n, rfl, ho, hc, hd, ?_⟩
    have z := Vals.ints (ns := (k (V.ref t)).map fun k : Nat => (k : Int)) (us := its2) (by rw [List.map_map]; exact r2)
    exact z
  have nn : 2 ≤ its.length → ∀ v ∈ its, k (backV v) ≠ [] := fun h2 v hv => by
    refine hn (by rw [rv.length]; exact h2) _ ?_
    rw [e1]
    exact List.mem_map.mpr ⟨v, hv, rfl⟩
  refine SrtO.sorted_ord (swo_lexN fun u => k (backV u)) hl.isList (by rw [← rv.length]; exact hz) (fun h2 h1 b hb kk => ?_) fun out h1 h2 => ?_
  · refine nums_sortable (s := { s with heap := h1 }) (by omega) (fun v hm => (nt v hm).keeps fun c o e _ => (kk c o e).2) (nn h2) fun o e => ?_
    have e' : some o = some (seqObj "list" its.toArray 0) := e.symm.trans hb
    cases e'
    intro c
    exact absurd (Value.type.inj c) (by decide)
  · have h3 : ∀ u ∈ out, ∃ a, u = Value.ref a := fun u hu => e2 u (h2.perm.mem_iff.mp hu)
    obtain ⟨n, hn'⟩ := PyProof.Rows.sortedAll_at s.heap its out.toArray
    have hb : (out.map backV).Perm xs := by
      rw [e1]
      exact h2.perm.map backV
    refine ⟨.ref _, upd H (s.heap.objs.size + 1) (.lst (out.map backV)), I.laid (t' := s.toks) (fun _ _ => PyProof.Rows.sortedAll_old) (Nat.le_succ _) ⟨?_, out, n, vals_back h3, hn'⟩, rfl, q _ _ (List.pairwise_map.mpr h1) hb (I.hok.fresh (Nat.le_succ _))⟩
    rw [hb.length_eq]
    exact hz
end K02
/-! Two own errors with a field of their own, made by the guide's block for such a class. -/
namespace PySem
namespace BadVX
open PySem.W PySem.Calls PyProof.Rows PySem.HandSPX
/-! ### the text of __init__ -/
def iA (p1 p2 : Pos) : Arguments := { posonlyargs := [], args := [{ arg := "self", annotation := none, pos := p1 }, { arg := "name", annotation := none, pos := p2 }], vararg := none, kwonlyargs := [], kw_defaults := [], kwarg := none, defaults := [] }
def iB (q1 q2 q3 q4 : Pos) : List Stmt := [.Assign [.Attribute (.Name "self" q1) "name" q2] (.Name "name" q3) q4]
def iS : Scope := { kind := .function, names := [(PySem.Str.ofString "self", .local), (PySem.Str.ofString "name", .local)], isGenerator := false, isCoroutine := false, more := [] }
/-- what the written part says of Low, at C, and of its __init__, at fI -/
structure BadVTxt (K : Frag) (mg : Str → Option Value) (C fI : Addr) : Prop where
  gC : mg "BadValue" = some (.ref C)
  cls : ∃ nm q N bs bm sn sub ab col dd k0 k1 k2 k3 k5, K.lookup C = some (excClassObj nm q C N bs bm true sn sub ab col dd k0 k1 k2 k3 k5 "ValueError.__new__") ∧ refsVE bm = true
  sa : findIn K (.ref C) "__setattr__" = some (some (.builtin "object.__setattr__"))
  ga : findIn K (.ref C) "__getattribute__" = some (some (.builtin "BaseException.__getattribute__"))
  gg : findIn K (.ref C) "__getattr__" = some none
  noN : findIn K (.ref C) "name" = some none
  iC : findIn K (.ref C) "__init__" = some (some (.ref fI))
  tC : typeIn K (.ref fI) = some (.type "function")
  kC : keepIn K (.ref C) = true
  exC : subIn K (.ref C) (.type "BaseException") = some true
  tyC : typeIn K (.ref C) = some (.type "type")
  hdC : hasDictIn K C = true
  te : exmOne K (.ref C) (.ref C) = some true
  fn : ∃ (oc : Value) (od : Option Addr) (doc pm : Value) (an : Option Addr) (cdv ct : Value) (osl : Array (Option Value)) (p1 p2 q1 q2 q3 q4 : Pos),
    K.lookup fI = some ⟨oc, od, .func (fnOf "__init__" "BadValue.__init__" (iA p1 p2) (iB q1 q2 q3 q4) iS .none .none doc pm an cdv ct), osl⟩ ∧ codeIn K cdv "BadValue.__init__" = true
theorem one_size (v : Value) : [v].length ≤ sizeLine := by
  rw [sizeLine_eq]
  exact (by decide : 1 ≤ 16777216)
theorem kept_but {K : Frag} {h h' : Heap} {x : Addr} (X : K.In h) (hx : K.lookup x = none) (k : ∀ b o, b ≠ x → h.get? b = some o → h'.get? b = some o) : K.In h' := fun a o e =>
  k a o (fun z => by rw [z, hx] at e; cases e) (X a o e)
theorem ldC {M : Model} {s : Shared} {name : Str} {scope : Scope} {L a : Addr} {cd : Value} {m : Str → Option Value} {x : Str} {pos : Pos} {v : Value} {Q : Value → Shared → Prop} {A : Around} {E : Value → Shared → Prop} (hn : s.heap.Ns L m) (hv : m x = some v) (h : Q v s)
    (hk : scope.kind = .function := by rfl) (hl : (envOfC name scope L a cd).kindOf x = some .local := by rfl) (hd : (x == ("__debug__" : Str)) = false := by decide) :
    wpAny M A (eval (.Name x pos) (envOfC name scope L a cd)) Q E s := wpAny_Name (wpAny_loadName_local hk hl hn hv h) hd
/-- what __init__ leaves of a fresh exception at x -/
structure InitEnd (h h' : Heap) (x C dx t1 : Addr) (v : Value) : Prop where
  keep : ∀ b o, b ≠ x → h.get? b = some o → h'.get? b = some o
  obj : h'.get? x = some { cls := .ref C, dict := some dx, data := .fields #[.ref t1, .none, .none, .none, .bool false, .none] }
  dbig : h.objs.size ≤ dx
  dne : dx ≠ x
  ns : h'.Ns1 dx (fun y => if y = "name" then some v else none)
/-- a made Low -/
structure OwnMade (h h' : Heap) (e C d : Addr) (v : Value) : Prop where
  keep : ∀ b o, h.get? b = some o → h'.get? b = some o
  new : h.objs.size ≤ e
  obj : ∃ oe vs, h'.get? e = some oe ∧ oe.cls = .ref C ∧ oe.dict = some d ∧ oe.data = .fields vs ∧ vs[1]? = some .none
  dbig : h.objs.size ≤ d
  dne : d ≠ e
  ns : h'.Ns1 d (fun y => if y = "name" then some v else none)
section
variable {prog : Program} {w : World} {A : Around} {E : Value → Shared → Prop} {R : Result → Shared → Prop} {s : Shared} {K : Frag} {mg : Str → Option Value} {C fI : Addr}
theorem low_init (T : BadVTxt K mg C fI) {x t0 : Addr} {v : Value} (X : K.In s.heap) (hlim : s.heap.NoLimit) (hx : s.heap.get? x = some (excO C t0)) (hnx : K.lookup x = none) (hroom : A.depth < recursionLimit)
    (hq : ∀ h' tk dx, InitEnd s.heap h' x C dx t0 v → R (.ok (.ret .none)) { s with heap := h', toks := tk }) :
    codeAny (model prog w) A (.call (.ref fI) ⟨[.ref x, v], []⟩) R s := by
  obtain ⟨oc, od, doc, pm, an, cdv, ct, osl, p1, p2, q1, q2, q3, q4, ho, hcd⟩ := T.fn
  obtain ⟨nm, q, N, bs, bm, sn, sub, ab, col, dd, k0, k1, k2, k3, k5, hC, hbm⟩ := T.cls
  have hcl : clsIn K C = some { name := nm, bases := bs, mro := .ref C :: bm, ns := N, qualname := q, hasDict := true, slotNames := sn, subclasses := sub, abstract := ab, collection := col, hasDel := false } := by unfold clsIn; rw [hC] <;> rfl
  refine Att.call_fn (binds := [("self", .ref x), ("name", v)]) X hlim ho hcd hroom (BindsTo.of_eq (by first | rfl | with_unfolding_all rfl)) (by first | rfl | decide | with_unfolding_all rfl) (fun s₁ IC => ?_) rfl rfl rfl
  obtain ⟨h₁, tk₁, rfl⟩ := IC.toInCall.same
  have k : ∀ b o, s.heap.get? b = some o → h₁.get? b = some o := IC.toInCall.keep
  have hn := IC.toInCall.ns
  have hxL : s.heap.objs.size ≠ x := Nat.ne_of_gt (Heap.lt_size hx)
  have X₁ : K.In h₁ := X.keeps k
  have hx₁ := k _ _ hx
  -- self.by = by
  show wpAny _ _ (execs _ _) _ _ _
  refine wpAny_execs_cons (plainObj_wpAny_Assign_Attribute ?_)
  refine ldC (v := v) hn (by first | rfl | with_unfolding_all rfl | kernel_rfl) (ldC (v := .ref x) hn (by first | rfl | with_unfolding_all rfl | kernel_rfl) ?_)
  refine set_plain X₁ (ox := excO C t0) (od := none) ⟨hx₁, rfl, rfl, trivial⟩ T.sa ?_
  refine exc_osa X₁ hx₁ hcl (show refsVE (.ref C :: bm) = true from hbm) rfl T.noN (fun h₃ tk₃ dx k₃ dn dne hx₃ hn₃ => ?_)
  show wpAny _ _ (execs _ _) _ _ _
  have z : s.heap.objs.size < h₁.objs.size := hn.lt
  exact wpAny_execs_nil (hq h₃ tk₃ dx ⟨fun b o hb e => k₃ b o hb (k b o e), hx₃, Nat.le_of_lt (Nat.lt_of_lt_of_le z dn), dne, hn₃⟩)
theorem low_made (T : BadVTxt K mg C fI) {v : Value} (X : K.In s.heap) (hlim : s.heap.NoLimit) (hroom : A.depth + 1 < recursionLimit)
    (hq : ∀ h' tk e d, OwnMade s.heap h' e C d v → R (.ok (.ret (.ref e))) { s with heap := h', toks := tk }) :
    codeAny (model prog w) A (.call (.ref C) ⟨[v], []⟩) R s := by
  obtain ⟨nm, q, N, bs, bm, sn, sub, ab, col, dd, k0, k1, k2, k3, k5, hC, hbm⟩ := T.cls
  obtain ⟨hp, g, dr, tk, os⟩ := s
  have k : ∀ b o, hp.get? b = some o → ((hp.push (kdv_tup [v])).push (excO C hp.objs.size)).get? b = some o := fun b o e => Heap.get?_push_of_some _ (Heap.get?_push_of_some _ e)
  have hget : ((hp.push (kdv_tup [v])).push (excO C hp.objs.size)).get? (hp.objs.size + 1) = some (excO C hp.objs.size) := by heap_get
  have hnx : K.lookup (hp.objs.size + 1) = none := by
    cases e : K.lookup (hp.objs.size + 1) with
    | none => rfl
    | some o =>
      have z : hp.get? (hp.objs.size + 1) = some o := X _ _ e
      exact absurd (Nat.lt_of_succ_lt (Heap.lt_size z)) (Nat.lt_irrefl _)
  refine call_own F.excBase_ValueError (fun X => refsVE_contains X bm hbm) (X _ _ hC) (looks_findIn X T.iC) (fun self => bind_fn X self T.tC) (one_size v) ?_
  refine low_init (s := ⟨(hp.push (kdv_tup [v])).push (excO C hp.objs.size), g, dr, tk, os⟩) T (X.keeps k) (hlim.keeps k) hget hnx ?_ fun h' tk' dx ⟨k', hx, dn, dne, hns⟩ => ?_
  · show A.depth + 1 < recursionLimit
    exact hroom
  · have old : ∀ b o, hp.get? b = some o → h'.get? b = some o := fun b o e => k' b o (Nat.ne_of_lt (Nat.lt_succ_of_lt (Heap.lt_size e))) (k b o e)
    have z : hp.objs.size + 1 + 1 ≤ dx := by
      first
        | (simpa only [Heap.size_push] using dn)
        | exact dn
        | (have q := dn; rw [Heap.size_push, Heap.size_push] at q; exact q)
    exact ⟨rfl, hq h' tk' (hp.objs.size + 1) dx ⟨old, Nat.le_succ _, ⟨_, _, hx, rfl, rfl, rfl, rfl⟩, Nat.le_trans (Nat.le_trans (Nat.le_succ _) (Nat.le_succ _)) z, dne, hns⟩⟩
end
end BadVX
end PySem
namespace L2
open PySem PySem.Spec PyProof.Rows
theorem relO_badv {v : V} {v' : Value} (r : RelV v v') (f : Str) : RelO (List.lookup f [(("name" : Str), v)]) (if f = "name" then some v' else none) := by
  by_cases hw : f = "name"
  · subst hw
    rw [if_pos rfl]
    have q : List.lookup ("name" : Str) [(("name" : Str), v)] = some v := by simp [List.lookup]
    rw [q]
    exact r
  · rw [if_neg hw]
    have qw : (f == ("name" : Str)) = false := by simpa using hw
    have q2 : List.lookup f [(("name" : Str), v)] = none := by simp [List.lookup, qw]
    rw [q2]
    trivial
section
variable {X : Cx} {C fI : Addr}
/-- Low(e) -/
def tMkBadV (C : Addr) (ta : TA) : St → Hp → XK → Prop := fun σ H Q => ta σ H fun vs H1 => ∃ v, vs = [v] ∧ ∀ d, H1 d = none → Q (.ref C) (some d) (upd H1 d (.xd [(("name" : Str), v)]))
theorem pmk_badv {a : Expr} {ta : TA} {p pos : Pos} {k : Nat} (T : PySem.BadVX.BadVTxt X.K X.mg C fI) (hr : Room k X.A) (ha : PA X [a] ta) (hg : Gl X "BadValue" := by rfl)
    (he : starEach (a :: []) X.env = (false, eval a X.env) :: starEach [] X.env := by rfl) (hpl : (backTo pos (starEach [] X.env)).any (·.1) = false := by rfl) :
    PMk X (.Call (.Name "BadValue" p) [a] [] pos) (tMkBadV C ta) := by
  intro pins s σ H Q I h
  refine wpAny_Call_Name_kw (ld_glob I hg T.gC ?_)
  refine PySem.W.callWith_K (h₀ := X.base) I.ok.mod.kin T.kC (thn (ha.run pos pins s σ H _ I h) fun us s1 hh => ?_) he hpl
  obtain ⟨vs, H1, I1, r1, v, ev, q1⟩ := hh
  subst ev
  refine ⟨I1.kIn, ?_⟩
  cases r1 with
  | cons rv rn =>
    rename_i v' us'
    cases rn
    show wpAny _ _ (call (.ref C) [v']) _ _ _
    have hlim := I1.nolimit
    obtain ⟨hp, g, dr, tk, os⟩ := s1
    refine wpAny_call (PySem.BadVX.low_made T I1.kIn hlim (by have := hr.dp; omega) fun h' tk' e d M => ?_)
    show MkP X pins σ Q (.ref e) ⟨h', g, dr, tk', os⟩
    obtain ⟨oe, fv, hoe, hc, hd, hdat, h1⟩ := M.obj
    have hns := M.ns
    obtain ⟨G', g1, g2⟩ := restrict h' fun b => decide (b ≠ e)
    have gk : ∀ b, b ≠ e → G'.get? b = h'.get? b := fun b hb => g1 b (decide_eq_true hb)
    have ge : G'.get? e = none := g2 e (by simp)
    have old : ∀ b o, hp.get? b = some o → G'.get? b = some o := fun b o q => (gk b (Nat.ne_of_lt (Nat.lt_of_lt_of_le (Heap.lt_size q) M.new))).trans (M.keep b o q)
    have ob : ObjOk X.prog X.w (upd H1 d (.xd [(("name" : Str), v)])) G' d (.xd [(("name" : Str), v)]) :=
      ⟨_, hns.at (fun o q => (gk d M.dne).trans q), fun f => relO_badv rv f⟩
    have J : Inv X pins σ (upd H1 d (.xd [(("name" : Str), v)])) ⟨G', g, dr, tk', os⟩ := I1.laid (t' := tk') old M.dbig ob
    refine ⟨e, oe, fv, ⟨G', g, dr, tk', os⟩, _, .ref C, some d, rfl, J, fun b o q => ?_, ge, hoe, ⟨hc, hd⟩, hdat, h1, ?_, rfl, I1.bare, raises_own T.exC T.tyC, q1 d (I1.hok.fresh M.dbig)⟩
    · by_cases hb : b = e
      · have q' : G'.get? b = some o := q
        rw [hb, ge] at q'; cases q'
      · exact (gk b hb).symm.trans q
    · rw [upd_ne (Ne.symm M.dne)]
      exact I1.hok.fresh M.new
/-- raise Low(e) -/
def tRaiseBadV (C : Addr) (W : WX) (ta : TA) : TS := fun _ σ H => tMkBadV C ta σ H fun cls d H' => W cls d σ H'
theorem ps_raiseBadV {a : Expr} {ta : TA} {W : WX} {p pos pos2 : Pos} {k : Nat} (hc : X.calm = true) (T : PySem.BadVX.BadVTxt X.K X.mg C fI) (hr : Room k X.A) (tk : Takes X W) (ha : PA X [a] ta) (hg : Gl X "BadValue" := by rfl)
    (he : starEach (a :: []) X.env = (false, eval a X.env) :: starEach [] X.env := by rfl) (hpl : (backTo pos (starEach [] X.env)).any (·.1) = false := by rfl) :
    PS X (.Raise (some (.Call (.Name "BadValue" p) [a] [] pos)) none pos2) (tRaiseBadV C W ta) := ps_raise hc tk (pmk_badv T hr ha hg he hpl)
/-- low.by, low the exception that the suite holds (at a; its class cls, its dict d) -/
def tByBadV (C : Addr) (a : Addr) (cls : Value) (d : Option Addr) (te : TE) : TE := fun σ H Q => te σ H fun x H1 => x = .ref a ∧ cls = .ref C ∧ ∃ (dd : Addr) (v : V), d = some dd ∧ H1 dd = some (.xd [(("name" : Str), v)]) ∧ Q v H1
theorem pe_byBadV {a : Addr} {oe : Obj} {cls : Value} {d : Option Addr} {pn : List (Addr × Obj)} {e : Expr} {te : TE} {pos : Pos} (T : PySem.BadVX.BadVTxt X.K X.mg C fI) (hz : Zc cls d oe) (hf : ∃ vs, oe.data = .fields vs) (he : PE (X.suite a ((a, oe) :: pn)) e te)
    (hb : attributeBase e "name" X.env (eval e X.env) = eval e X.env := by rfl) :
    PE (X.suite a ((a, oe) :: pn)) (.Attribute e "name" pos) (tByBadV C a cls d te) := by
  refine ⟨fun pins s σ H Q I h => ?_⟩
  refine attr_of hb (thn (he.run pins s σ H _ I h) fun u s1 hh => ?_)
  obtain ⟨x, H1, I1, rx, ex, ec, dd, v, ed, ea, q⟩ := hh
  subst ex
  obtain rfl : u = Value.ref a := rx
  subst ec
  subst ed
  obtain ⟨ha, _⟩ := I1.pin (a, oe) (List.mem_append_left _ List.mem_cons_self)
  obtain ⟨vs, hd⟩ := hf
  have hx : ObjOk X.prog X.w H1 s1.heap dd (.xd [(("name" : Str), v)]) := I1.hok dd _ ea
  obtain ⟨mA, hns, hr⟩ := hx
  obtain ⟨od, ho, hl⟩ := lookIn_ns hns
  have l : List.lookup ("name" : Str) [(("name" : Str), v)] = some v := by simp [List.lookup]
  obtain ⟨u, hu, ru⟩ := RelO.some_of (v := v) (o := mA "name") (by rw [← l]; exact hr "name")
  have J : PySem.W.InstAt s1.heap a oe C (some od) := ⟨ha, hz.1, by unfold PySem.W.notCls; rw [hd] <;> rfl, by rw [hz.2]; exact ho⟩
  exact HandSPX.exc_get I1.kIn J T.ga T.gg T.exC (PySem.W.findObj_own T.hdC T.noN rfl (by rw [hl, hu])) (handed_of ru) ⟨v, H1, I1.tok _, ru, q⟩
end
end L2

namespace PySem
namespace NotPX
open PySem.W PySem.Calls PyProof.Rows PySem.HandSPX
/-! ### the text of __init__ -/
def iA (p1 p2 : Pos) : Arguments := { posonlyargs := [], args := [{ arg := "self", annotation := none, pos := p1 }, { arg := "why", annotation := none, pos := p2 }], vararg := none, kwonlyargs := [], kw_defaults := [], kwarg := none, defaults := [] }
def iB (q1 q2 q3 q4 : Pos) : List Stmt := [.Assign [.Attribute (.Name "self" q1) "why" q2] (.Name "why" q3) q4]
def iS : Scope := { kind := .function, names := [(PySem.Str.ofString "self", .local), (PySem.Str.ofString "why", .local)], isGenerator := false, isCoroutine := false, more := [] }
/-- what the written part says of Low, at C, and of its __init__, at fI -/
structure NotPTxt (K : Frag) (mg : Str → Option Value) (C fI : Addr) : Prop where
  gC : mg "NotPossible" = some (.ref C)
  cls : ∃ nm q N bs bm sn sub ab col dd k0 k1 k2 k3 k5, K.lookup C = some (excClassObj nm q C N bs bm true sn sub ab col dd k0 k1 k2 k3 k5 "ValueError.__new__") ∧ refsVE bm = true
  sa : findIn K (.ref C) "__setattr__" = some (some (.builtin "object.__setattr__"))
  ga : findIn K (.ref C) "__getattribute__" = some (some (.builtin "BaseException.__getattribute__"))
  gg : findIn K (.ref C) "__getattr__" = some none
  noN : findIn K (.ref C) "why" = some none
  iC : findIn K (.ref C) "__init__" = some (some (.ref fI))
  tC : typeIn K (.ref fI) = some (.type "function")
  kC : keepIn K (.ref C) = true
  exC : subIn K (.ref C) (.type "BaseException") = some true
  tyC : typeIn K (.ref C) = some (.type "type")
  hdC : hasDictIn K C = true
  te : exmOne K (.ref C) (.ref C) = some true
  fn : ∃ (oc : Value) (od : Option Addr) (doc pm : Value) (an : Option Addr) (cdv ct : Value) (osl : Array (Option Value)) (p1 p2 q1 q2 q3 q4 : Pos),
    K.lookup fI = some ⟨oc, od, .func (fnOf "__init__" "NotPossible.__init__" (iA p1 p2) (iB q1 q2 q3 q4) iS .none .none doc pm an cdv ct), osl⟩ ∧ codeIn K cdv "NotPossible.__init__" = true
theorem one_size (v : Value) : [v].length ≤ sizeLine := by
  rw [sizeLine_eq]
  exact (by decide : 1 ≤ 16777216)
theorem kept_but {K : Frag} {h h' : Heap} {x : Addr} (X : K.In h) (hx : K.lookup x = none) (k : ∀ b o, b ≠ x → h.get? b = some o → h'.get? b = some o) : K.In h' := fun a o e =>
  k a o (fun z => by rw [z, hx] at e; cases e) (X a o e)
theorem ldC {M : Model} {s : Shared} {name : Str} {scope : Scope} {L a : Addr} {cd : Value} {m : Str → Option Value} {x : Str} {pos : Pos} {v : Value} {Q : Value → Shared → Prop} {A : Around} {E : Value → Shared → Prop} (hn : s.heap.Ns L m) (hv : m x = some v) (h : Q v s)
    (hk : scope.kind = .function := by rfl) (hl : (envOfC name scope L a cd).kindOf x = some .local := by rfl) (hd : (x == ("__debug__" : Str)) = false := by decide) :
    wpAny M A (eval (.Name x pos) (envOfC name scope L a cd)) Q E s := wpAny_Name (wpAny_loadName_local hk hl hn hv h) hd
/-- what __init__ leaves of a fresh exception at x -/
structure InitEnd (h h' : Heap) (x C dx t1 : Addr) (v : Value) : Prop where
  keep : ∀ b o, b ≠ x → h.get? b = some o → h'.get? b = some o
  obj : h'.get? x = some { cls := .ref C, dict := some dx, data := .fields #[.ref t1, .none, .none, .none, .bool false, .none] }
  dbig : h.objs.size ≤ dx
  dne : dx ≠ x
  ns : h'.Ns1 dx (fun y => if y = "why" then some v else none)
/-- a made Low -/
structure OwnMade (h h' : Heap) (e C d : Addr) (v : Value) : Prop where
  keep : ∀ b o, h.get? b = some o → h'.get? b = some o
  new : h.objs.size ≤ e
  obj : ∃ oe vs, h'.get? e = some oe ∧ oe.cls = .ref C ∧ oe.dict = some d ∧ oe.data = .fields vs ∧ vs[1]? = some .none
  dbig : h.objs.size ≤ d
  dne : d ≠ e
  ns : h'.Ns1 d (fun y => if y = "why" then some v else none)
section
variable {prog : Program} {w : World} {A : Around} {E : Value → Shared → Prop} {R : Result → Shared → Prop} {s : Shared} {K : Frag} {mg : Str → Option Value} {C fI : Addr}
theorem low_init (T : NotPTxt K mg C fI) {x t0 : Addr} {v : Value} (X : K.In s.heap) (hlim : s.heap.NoLimit) (hx : s.heap.get? x = some (excO C t0)) (hnx : K.lookup x = none) (hroom : A.depth < recursionLimit)
    (hq : ∀ h' tk dx, InitEnd s.heap h' x C dx t0 v → R (.ok (.ret .none)) { s with heap := h', toks := tk }) :
    codeAny (model prog w) A (.call (.ref fI) ⟨[.ref x, v], []⟩) R s := by
  obtain ⟨oc, od, doc, pm, an, cdv, ct, osl, p1, p2, q1, q2, q3, q4, ho, hcd⟩ := T.fn
  obtain ⟨nm, q, N, bs, bm, sn, sub, ab, col, dd, k0, k1, k2, k3, k5, hC, hbm⟩ := T.cls
  have hcl : clsIn K C = some { name := nm, bases := bs, mro := .ref C :: bm, ns := N, qualname := q, hasDict := true, slotNames := sn, subclasses := sub, abstract := ab, collection := col, hasDel := false } := by unfold clsIn; rw [hC] <;> rfl
  refine Att.call_fn (binds := [("self", .ref x), ("why", v)]) X hlim ho hcd hroom (BindsTo.of_eq (by first | rfl | with_unfolding_all rfl)) (by first | rfl | decide | with_unfolding_all rfl) (fun s₁ IC => ?_) rfl rfl rfl
  obtain ⟨h₁, tk₁, rfl⟩ := IC.toInCall.same
  have k : ∀ b o, s.heap.get? b = some o → h₁.get? b = some o := IC.toInCall.keep
  have hn := IC.toInCall.ns
  have hxL : s.heap.objs.size ≠ x := Nat.ne_of_gt (Heap.lt_size hx)
  have X₁ : K.In h₁ := X.keeps k
  have hx₁ := k _ _ hx
  -- self.by = by
  show wpAny _ _ (execs _ _) _ _ _
  refine wpAny_execs_cons (plainObj_wpAny_Assign_Attribute ?_)
  refine ldC (v := v) hn (by first | rfl | with_unfolding_all rfl | kernel_rfl) (ldC (v := .ref x) hn (by first | rfl | with_unfolding_all rfl | kernel_rfl) ?_)
  refine set_plain X₁ (ox := excO C t0) (od := none) ⟨hx₁, rfl, rfl, trivial⟩ T.sa ?_
  refine exc_osa X₁ hx₁ hcl (show refsVE (.ref C :: bm) = true from hbm) rfl T.noN (fun h₃ tk₃ dx k₃ dn dne hx₃ hn₃ => ?_)
  show wpAny _ _ (execs _ _) _ _ _
  have z : s.heap.objs.size < h₁.objs.size := hn.lt
  exact wpAny_execs_nil (hq h₃ tk₃ dx ⟨fun b o hb e => k₃ b o hb (k b o e), hx₃, Nat.le_of_lt (Nat.lt_of_lt_of_le z dn), dne, hn₃⟩)
theorem low_made (T : NotPTxt K mg C fI) {v : Value} (X : K.In s.heap) (hlim : s.heap.NoLimit) (hroom : A.depth + 1 < recursionLimit)
    (hq : ∀ h' tk e d, OwnMade s.heap h' e C d v → R (.ok (.ret (.ref e))) { s with heap := h', toks := tk }) :
    codeAny (model prog w) A (.call (.ref C) ⟨[v], []⟩) R s := by
  obtain ⟨nm, q, N, bs, bm, sn, sub, ab, col, dd, k0, k1, k2, k3, k5, hC, hbm⟩ := T.cls
  obtain ⟨hp, g, dr, tk, os⟩ := s
  have k : ∀ b o, hp.get? b = some o → ((hp.push (kdv_tup [v])).push (excO C hp.objs.size)).get? b = some o := fun b o e => Heap.get?_push_of_some _ (Heap.get?_push_of_some _ e)
  have hget : ((hp.push (kdv_tup [v])).push (excO C hp.objs.size)).get? (hp.objs.size + 1) = some (excO C hp.objs.size) := by heap_get
  have hnx : K.lookup (hp.objs.size + 1) = none := by
    cases e : K.lookup (hp.objs.size + 1) with
    | none => rfl
    | some o =>
      have z : hp.get? (hp.objs.size + 1) = some o := X _ _ e
      exact absurd (Nat.lt_of_succ_lt (Heap.lt_size z)) (Nat.lt_irrefl _)
  refine call_own F.excBase_ValueError (fun X => refsVE_contains X bm hbm) (X _ _ hC) (looks_findIn X T.iC) (fun self => bind_fn X self T.tC) (one_size v) ?_
  refine low_init (s := ⟨(hp.push (kdv_tup [v])).push (excO C hp.objs.size), g, dr, tk, os⟩) T (X.keeps k) (hlim.keeps k) hget hnx ?_ fun h' tk' dx ⟨k', hx, dn, dne, hns⟩ => ?_
  · show A.depth + 1 < recursionLimit
    exact hroom
  · have old : ∀ b o, hp.get? b = some o → h'.get? b = some o := fun b o e => k' b o (Nat.ne_of_lt (Nat.lt_succ_of_lt (Heap.lt_size e))) (k b o e)
    have z : hp.objs.size + 1 + 1 ≤ dx := by
      first
        | (simpa only [Heap.size_push] using dn)
        | exact dn
        | (have q := dn; rw [Heap.size_push, Heap.size_push] at q; exact q)
    exact ⟨rfl, hq h' tk' (hp.objs.size + 1) dx ⟨old, Nat.le_succ _, ⟨_, _, hx, rfl, rfl, rfl, rfl⟩, Nat.le_trans (Nat.le_trans (Nat.le_succ _) (Nat.le_succ _)) z, dne, hns⟩⟩
end
end NotPX
end PySem
namespace L2
open PySem PySem.Spec PyProof.Rows
theorem relO_notp {v : V} {v' : Value} (r : RelV v v') (f : Str) : RelO (List.lookup f [(("why" : Str), v)]) (if f = "why" then some v' else none) := by
  by_cases hw : f = "why"
  · subst hw
    rw [if_pos rfl]
    have q : List.lookup ("why" : Str) [(("why" : Str), v)] = some v := by simp [List.lookup]
    rw [q]
    exact r
  · rw [if_neg hw]
    have qw : (f == ("why" : Str)) = false := by simpa using hw
    have q2 : List.lookup f [(("why" : Str), v)] = none := by simp [List.lookup, qw]
    rw [q2]
    trivial
section
variable {X : Cx} {C fI : Addr}
/-- Low(e) -/
def tMkNotP (C : Addr) (ta : TA) : St → Hp → XK → Prop := fun σ H Q => ta σ H fun vs H1 => ∃ v, vs = [v] ∧ ∀ d, H1 d = none → Q (.ref C) (some d) (upd H1 d (.xd [(("why" : Str), v)]))
theorem pmk_notp {a : Expr} {ta : TA} {p pos : Pos} {k : Nat} (T : PySem.NotPX.NotPTxt X.K X.mg C fI) (hr : Room k X.A) (ha : PA X [a] ta) (hg : Gl X "NotPossible" := by rfl)
    (he : starEach (a :: []) X.env = (false, eval a X.env) :: starEach [] X.env := by rfl) (hpl : (backTo pos (starEach [] X.env)).any (·.1) = false := by rfl) :
    PMk X (.Call (.Name "NotPossible" p) [a] [] pos) (tMkNotP C ta) := by
  intro pins s σ H Q I h
  refine wpAny_Call_Name_kw (ld_glob I hg T.gC ?_)
  refine PySem.W.callWith_K (h₀ := X.base) I.ok.mod.kin T.kC (thn (ha.run pos pins s σ H _ I h) fun us s1 hh => ?_) he hpl
  obtain ⟨vs, H1, I1, r1, v, ev, q1⟩ := hh
  subst ev
  refine ⟨I1.kIn, ?_⟩
  cases r1 with
  | cons rv rn =>
    rename_i v' us'
    cases rn
    show wpAny _ _ (call (.ref C) [v']) _ _ _
    have hlim := I1.nolimit
    obtain ⟨hp, g, dr, tk, os⟩ := s1
    refine wpAny_call (PySem.NotPX.low_made T I1.kIn hlim (by have := hr.dp; omega) fun h' tk' e d M => ?_)
    show MkP X pins σ Q (.ref e) ⟨h', g, dr, tk', os⟩
    obtain ⟨oe, fv, hoe, hc, hd, hdat, h1⟩ := M.obj
    have hns := M.ns
    obtain ⟨G', g1, g2⟩ := restrict h' fun b => decide (b ≠ e)
    have gk : ∀ b, b ≠ e → G'.get? b = h'.get? b := fun b hb => g1 b (decide_eq_true hb)
    have ge : G'.get? e = none := g2 e (by simp)
    have old : ∀ b o, hp.get? b = some o → G'.get? b = some o := fun b o q => (gk b (Nat.ne_of_lt (Nat.lt_of_lt_of_le (Heap.lt_size q) M.new))).trans (M.keep b o q)
    have ob : ObjOk X.prog X.w (upd H1 d (.xd [(("why" : Str), v)])) G' d (.xd [(("why" : Str), v)]) :=
      ⟨_, hns.at (fun o q => (gk d M.dne).trans q), fun f => relO_notp rv f⟩
    have J : Inv X pins σ (upd H1 d (.xd [(("why" : Str), v)])) ⟨G', g, dr, tk', os⟩ := I1.laid (t' := tk') old M.dbig ob
    refine ⟨e, oe, fv, ⟨G', g, dr, tk', os⟩, _, .ref C, some d, rfl, J, fun b o q => ?_, ge, hoe, ⟨hc, hd⟩, hdat, h1, ?_, rfl, I1.bare, raises_own T.exC T.tyC, q1 d (I1.hok.fresh M.dbig)⟩
    · by_cases hb : b = e
      · have q' : G'.get? b = some o := q
        rw [hb, ge] at q'; cases q'
      · exact (gk b hb).symm.trans q
    · rw [upd_ne (Ne.symm M.dne)]
      exact I1.hok.fresh M.new
/-- raise Low(e) -/
def tRaiseNotP (C : Addr) (W : WX) (ta : TA) : TS := fun _ σ H => tMkNotP C ta σ H fun cls d H' => W cls d σ H'
theorem ps_raiseNotP {a : Expr} {ta : TA} {W : WX} {p pos pos2 : Pos} {k : Nat} (hc : X.calm = true) (T : PySem.NotPX.NotPTxt X.K X.mg C fI) (hr : Room k X.A) (tk : Takes X W) (ha : PA X [a] ta) (hg : Gl X "NotPossible" := by rfl)
    (he : starEach (a :: []) X.env = (false, eval a X.env) :: starEach [] X.env := by rfl) (hpl : (backTo pos (starEach [] X.env)).any (·.1) = false := by rfl) :
    PS X (.Raise (some (.Call (.Name "NotPossible" p) [a] [] pos)) none pos2) (tRaiseNotP C W ta) := ps_raise hc tk (pmk_notp T hr ha hg he hpl)
/-- low.by, low the exception that the suite holds (at a; its class cls, its dict d) -/
def tByNotP (C : Addr) (a : Addr) (cls : Value) (d : Option Addr) (te : TE) : TE := fun σ H Q => te σ H fun x H1 => x = .ref a ∧ cls = .ref C ∧ ∃ (dd : Addr) (v : V), d = some dd ∧ H1 dd = some (.xd [(("why" : Str), v)]) ∧ Q v H1
theorem pe_byNotP {a : Addr} {oe : Obj} {cls : Value} {d : Option Addr} {pn : List (Addr × Obj)} {e : Expr} {te : TE} {pos : Pos} (T : PySem.NotPX.NotPTxt X.K X.mg C fI) (hz : Zc cls d oe) (hf : ∃ vs, oe.data = .fields vs) (he : PE (X.suite a ((a, oe) :: pn)) e te)
    (hb : attributeBase e "why" X.env (eval e X.env) = eval e X.env := by rfl) :
    PE (X.suite a ((a, oe) :: pn)) (.Attribute e "why" pos) (tByNotP C a cls d te) := by
  refine ⟨fun pins s σ H Q I h => ?_⟩
  refine attr_of hb (thn (he.run pins s σ H _ I h) fun u s1 hh => ?_)
  obtain ⟨x, H1, I1, rx, ex, ec, dd, v, ed, ea, q⟩ := hh
  subst ex
  obtain rfl : u = Value.ref a := rx
  subst ec
  subst ed
  obtain ⟨ha, _⟩ := I1.pin (a, oe) (List.mem_append_left _ List.mem_cons_self)
  obtain ⟨vs, hd⟩ := hf
  have hx : ObjOk X.prog X.w H1 s1.heap dd (.xd [(("why" : Str), v)]) := I1.hok dd _ ea
  obtain ⟨mA, hns, hr⟩ := hx
  obtain ⟨od, ho, hl⟩ := lookIn_ns hns
  have l : List.lookup ("why" : Str) [(("why" : Str), v)] = some v := by simp [List.lookup]
  obtain ⟨u, hu, ru⟩ := RelO.some_of (v := v) (o := mA "why") (by rw [← l]; exact hr "why")
  have J : PySem.W.InstAt s1.heap a oe C (some od) := ⟨ha, hz.1, by unfold PySem.W.notCls; rw [hd] <;> rfl, by rw [hz.2]; exact ho⟩
  exact HandSPX.exc_get I1.kIn J T.ga T.gg T.exC (PySem.W.findObj_own T.hdC T.noN rfl (by rw [hl, hu])) (handed_of ru) ⟨v, H1, I1.tok _, ru, q⟩
end
end L2
/-! The text, the promises of codes.py -/
namespace K02
open PySem PySem.Spec PyProof.Rows L2

/-! ### the text -/
def topS (i : Nat) : Stmt := PySem.Challenge.pw_syncedwords_k02_whole_parses.main.body.getD i (.Pass ⟨0, 0, 0, 0⟩)
abbrev sWhole : Stmt := topS 10
abbrev sSpelled : Stmt := topS 11
abbrev sIsCode : Stmt := topS 12
abbrev sIsString : Stmt := topS 13
abbrev sIsParse : Stmt := topS 14
abbrev sParsesOf : Stmt := topS 15
abbrev sWays : Stmt := topS 16
abbrev sCheckCode : Stmt := topS 17
abbrev sCheckString : Stmt := topS 18
abbrev sJoined : Stmt := topS 20
abbrev sCheckParse : Stmt := topS 21
abbrev sStringOf : Stmt := topS 22
abbrev sIsMessage : Stmt := topS 23
abbrev sCount : Stmt := topS 24
abbrev sNth : Stmt := topS 25
abbrev sIndex : Stmt := topS 26
abbrev sReadAt : Stmt := topS 27
abbrev sBounds : Stmt := topS 28
abbrev sCommon : Stmt := topS 29
abbrev sLStream : Stmt := topS 31
abbrev sLNext : Stmt := topS 32
abbrev sLIsInt : Stmt := topS 33
abbrev sLEqual : Stmt := topS 34
abbrev sLPick : Stmt := topS 35
abbrev sLString : Stmt := topS 36
abbrev sLCode : Stmt := topS 37
abbrev sLParses : Stmt := topS 38
abbrev sLMessage : Stmt := topS 39
abbrev sLEnds : Stmt := topS 40
abbrev sLNth : Stmt := topS 41
abbrev sLCommon : Stmt := topS 42
abbrev sLaw : Stmt := topS 43

/-- what the top leaves: the built-in names that stand, the constants -/
structure Txt (K : PySem.W.Frag) (mg : Str → Option Value) : Prop where
  len : mg "len" = none
  isi : mg "isinstance" = none
  all : mg "all" = none
  any : mg "any" = none
  sum : mg "sum" = none
  rng : mg "range" = none
  enu : mg "enumerate" = none
  tup : mg "tuple" = none
  lst : mg "list" = none
  int : mg "int" = none
  abs : mg "abs" = none
  min : mg "min" = none
  srt : mg "sorted" = none
  str : mg "str" = none
  bool : mg "bool" = none
  letters : ∃ t, mg "LETTERS" = some (.str "abc" t)
  mw : ∃ t, mg "MOST_WORDS" = some (.int 6 t)
  lw : ∃ t, mg "LONGEST_WORD" = some (.int 5 t)
  ls : ∃ t, mg "LONGEST_STRING" = some (.int 24 t)
/-- the def x of the text st is what the name x holds -/
def DefAt (K : PySem.W.Frag) (mg : Str → Option Value) (x : Str) (st : Stmt) : Prop := ∃ f fd, mg x = some (.ref f) ∧ Fun K x x st f fd
/-- what the name x holds keeps the promise sp -/
def Has (P : Program) (w : World) (K : PySem.W.Frag) (mg : Str → Option Value) (base : Heap) (CX : CXT) (k : Nat) (x : Str) (ps : List Str) (sp : Sp) : Prop :=
  ∃ f fd, mg x = some (.ref f) ∧ PySem.W.keepIn K (.ref f) = true ∧ Binds K fd ps [] ∧ FnOk P w K mg base CX k f fd ps sp
section
variable {X : Cx} {CX : CXT} {k : Nat} {ps : List Str} {sp : Sp} {x : Str} {p pos : Pos} {e : Expr} {es : List Expr} {t : TA}
/-- a call of a def that lets nothing out -/
theorem pe_has (G : Has X.prog X.w X.K X.mg X.base CX0 k x ps sp) (hr : Room k X.A) (hg : Gl X x) (ha : PA X (e :: es) t) (hdb : (x == ("__debug__" : Str)) = false := by decide)
    (he : starEach (e :: es) X.env = (false, eval e X.env) :: starEach es X.env := by rfl) (hpl : (backTo pos (starEach es X.env)).any (·.1) = false := by rfl) :
    PE X (.Call (.Name x p) (e :: es) [] pos) (tCall sp [] E0 t) := by
  obtain ⟨f, fd, gm, hk, hb, F⟩ := G
  exact pe_call F hr hg gm hk hb .nil pass0 ha hdb he hpl
/-- a built-in type's name -/
theorem pe_ty {n : String} (hg : Gl X x) (hm : X.mg x = none) (hv : bootBuiltins x = some (.type n)) (hn : x ≠ "__name__" := by decide) (hd : (x == ("__debug__" : Str)) = false := by decide) : PE X (.Name x pos) (tC (.ty n)) :=
  pe_bltn hg hm hv rfl hn hd
end
/-! ### comprehensions -/
theorem same_new {H : Hp} {p : Addr} {o : HO} (h : H p = none) : Same H (upd H p o) := fun b x e => by
  rw [upd_ne (ne_of_none e h)]
  exact e
theorem same_at {H H1 : Hp} {p : Addr} {o : HO} (s : Same H H1) (h : H p = none) : Same H (upd H1 p o) := fun b x e => by
  rw [upd_ne (ne_of_none e h)]
  exact s b x e
/-- what the first i turns have kept -/
def keptL (f : Nat → V) (p : Nat → Bool) (i : Nat) : List V := ((List.range i).filter p).map f
theorem keptL_le (f : Nat → V) (p : Nat → Bool) (i : Nat) : (keptL f p i).length ≤ i := by
  unfold keptL
  rw [List.length_map]
  exact Nat.le_trans (List.length_filter_le _ _) (Nat.le_of_eq List.length_range)
theorem keptL_yes {f : Nat → V} {p : Nat → Bool} {i : Nat} (h : p i = true) : keptL f p (i + 1) = keptL f p i ++ [f i] := by
  unfold keptL
  rw [List.range_succ, List.filter_append, List.map_append]
  simp [h]
theorem keptL_no {f : Nat → V} {p : Nat → Bool} {i : Nat} (h : p i = false) : keptL f p (i + 1) = keptL f p i := by
  unfold keptL
  rw [List.range_succ, List.filter_append, List.map_append]
  simp [h]
theorem keptL_all {α : Type} {f : Nat → V} {xs : List α} {g : α → V} (h : ∀ i x, xs[i]? = some x → f i = g x) : keptL f (fun _ => true) xs.length = xs.map g := by
  unfold keptL
  rw [List.filter_eq_self.mpr (fun _ _ => rfl)]
  refine List.ext_getElem (by simp) fun i h1 h2 => ?_
  have hi : i < xs.length := by simpa using h2
  rw [List.getElem_map, List.getElem_map, List.getElem_range]
  exact h i _ (List.getElem?_eq_getElem hi)
theorem keptL_fun {f : Nat → V} {n : Nat} : keptL f (fun _ => true) n = (List.range n).map f := by
  unfold keptL
  rw [List.filter_eq_self.mpr (fun _ _ => rfl)]
section
variable {J : It} {n : Nat} {G : Hp → Prop} {Y : Nat → Hp → V → Hp → Prop}
/-- a comprehension whose turn i, if p i, gives f i, and that leaves what was tracked -/
theorem lc_do (w : Walk J n G Y) {g : TG} {tt : TT} {te : TE} {vs : List Nat} {σ : L2.St} {H1 : Hp} {D : Addr} {Qd : Hp → Prop} (f : Nat → V) (p : Nat → Bool) (hD : H1 D = none) (hn : n ≤ sizeLine) (hG : ∀ H', Same H1 H' → G H')
    (hs : ∀ (i : Nat) (x : V) (H H' : Hp) (R : V → Hp → Prop) (N : Hp → Prop), i < n → Same H1 H → Y i H x H' → (p i = true → ∀ H4, Same H H4 → R (f i) H4) → (p i = false → ∀ H4, Same H H4 → N H4) →
      g x (wipe σ vs) H' fun σ2 H2 => wipe σ2 vs = wipe σ vs ∧ tt σ2 H2 fun b H3 => if b = true then te σ2 H3 R else N H3)
    (hd : ∀ H', Same H1 H' → H' D = some (.lst (keptL f p n)) → Qd H') :
    ∃ W : Nat → Nat → Hp → Prop, (∃ m, W 0 m (upd H1 D (.lst []))) ∧ ∀ i m H, W i m H →
      (J.stop i H ∧ Qd H) ∨ (J.go i H ∧ ∃ Nx : Hp → Prop, (∀ H', Nx H' → ∃ m', m' < m ∧ W (i + 1) m' H') ∧ ∀ x H', J.yld i H x H' → g x (wipe σ vs) H' fun σ2 H2 => wipe σ2 vs = wipe σ vs ∧ tt σ2 H2 fun b H3 =>
        if b = true then te σ2 H3 fun y H4 => ∃ acc, H4 D = some (.lst acc) ∧ acc.length < sizeLine ∧ Nx (upd H4 D (.lst (acc ++ [y]))) else Nx H3) := by
  refine lc_it w (fun i H => Same H1 H ∧ H D = some (.lst (keptL f p i))) ⟨same_new hD, upd_same⟩ (fun i H _ h => hG H h.1) (fun i x H H' hi h y => ?_) (fun H h => hd H h.1 h.2)
  obtain ⟨s1, e1⟩ := h
  refine hs i x H H' _ _ hi s1 y (fun hp H4 s4 => ⟨_, s4 _ _ e1, Nat.lt_of_le_of_lt (keptL_le f p i) (Nat.lt_of_lt_of_le hi hn), same_at (s1.trans s4) hD, ?_⟩) (fun hp H4 s4 => ⟨s1.trans s4, ?_⟩)
  · rw [upd_same, keptL_yes hp]
  · rw [keptL_no hp]
    exact s4 _ _ e1
theorem wipe_set1 {σ : L2.St} {j : Nat} {x : Option V} : wipe ((wipe σ [j]).set j x) [j] = wipe σ [j] := by
  show ((σ.set j none).set j x).set j none = σ.set j none
  rw [List.set_set, List.set_set]
/-- .. the target a name, no test -/
theorem lc_map (w : Walk J n G Y) {te : TE} {j : Nat} {σ : L2.St} {H1 : Hp} {D : Addr} {Qd : Hp → Prop} (f : Nat → V) (hD : H1 D = none) (hn : n ≤ sizeLine) (hG : ∀ H', Same H1 H' → G H')
    (hs : ∀ (i : Nat) (x : V) (H H' : Hp) (R : V → Hp → Prop), i < n → Same H1 H → Y i H x H' → (∀ H4, Same H H4 → R (f i) H4) → te ((wipe σ [j]).set j (some x)) H' R)
    (hd : ∀ H', Same H1 H' → H' D = some (.lst (keptL f (fun _ => true) n)) → Qd H') :
    ∃ W : Nat → Nat → Hp → Prop, (∃ m, W 0 m (upd H1 D (.lst []))) ∧ ∀ i m H, W i m H →
      (J.stop i H ∧ Qd H) ∨ (J.go i H ∧ ∃ Nx : Hp → Prop, (∀ H', Nx H' → ∃ m', m' < m ∧ W (i + 1) m' H') ∧ ∀ x H', J.yld i H x H' → gName j x (wipe σ [j]) H' fun σ2 H2 => wipe σ2 [j] = wipe σ [j] ∧ tYes σ2 H2 fun b H3 =>
        if b = true then te σ2 H3 fun y H4 => ∃ acc, H4 D = some (.lst acc) ∧ acc.length < sizeLine ∧ Nx (upd H4 D (.lst (acc ++ [y]))) else Nx H3) :=
  lc_do w f (fun _ => true) hD hn hG (fun i x H H' R N hi s1 y h1 h2 => ⟨wipe_set1, iteT (B := N H') (hs i x H H' R hi s1 y (h1 rfl))⟩) hd
end

theorem wipe_set2 {σ : L2.St} {i j : Nat} {x y : Option V} (h : i ≠ j) : wipe (((wipe σ [i, j]).set i x).set j y) [i, j] = wipe σ [i, j] := by
  show (((((σ.set j none).set i none).set i x).set j y).set j none).set i none = (σ.set j none).set i none
  rw [List.set_set, List.set_set, List.set_comm none none (Ne.symm h), List.set_set, List.set_comm none none (Ne.symm h), List.set_set, List.set_comm none none h]
/-- .. over the numbered items of a tuple -/
theorem lc_en {K : PySem.W.Frag} {a : Addr} {xs : List V} {tt : TT} {te : TE} {i1 i2 : Nat} {σ : L2.St} {H1 : Hp} {D : Addr} {Qd : Hp → Prop} (hA : H1 a = some (.tup xs)) (h12 : i1 ≠ i2) (f : Nat → V) (p : Nat → Bool) (hD : H1 D = none) (hn : xs.length ≤ sizeLine)
    (hs : ∀ (i : Nat) (x : V) (H H' : Hp) (R : V → Hp → Prop) (N : Hp → Prop), xs[i]? = some x → Same H1 H → Same H H' → (p i = true → ∀ H4, Same H' H4 → R (f i) H4) → (p i = false → ∀ H4, Same H' H4 → N H4) →
      tt (((wipe σ [i1, i2]).set i1 (some (.int (i : Nat)))).set i2 (some x)) H' fun b H3 => if b = true then te (((wipe σ [i1, i2]).set i1 (some (.int (i : Nat)))).set i2 (some x)) H3 R else N H3)
    (hd : ∀ H', Same H1 H' → H' D = some (.lst (keptL f p xs.length)) → Qd H') :
    ∃ W : Nat → Nat → Hp → Prop, (∃ m, W 0 m (upd H1 D (.lst []))) ∧ ∀ i m H, W i m H →
      ((ItEn K a).stop i H ∧ Qd H) ∨ ((ItEn K a).go i H ∧ ∃ Nx : Hp → Prop, (∀ H', Nx H' → ∃ m', m' < m ∧ W (i + 1) m' H') ∧ ∀ x H', (ItEn K a).yld i H x H' → gTup K 2 (gCons (gName i1) (gCons (gName i2) gNil)) x (wipe σ [i1, i2]) H' fun σ2 H2 => wipe σ2 [i1, i2] = wipe σ [i1, i2] ∧ tt σ2 H2 fun b H3 =>
        if b = true then te σ2 H3 fun y H4 => ∃ acc, H4 D = some (.lst acc) ∧ acc.length < sizeLine ∧ Nx (upd H4 D (.lst (acc ++ [y]))) else Nx H3) := by
  refine lc_do (walk_en (xs := xs)) f p hD hn (fun H' s => .inl (.inl (s _ _ hA))) (fun i x H H' R N hi s1 y h1 h2 => ?_) hd
  obtain ⟨T, z, u, rfl, hT, rfl, ez, eu⟩ := y
  obtain rfl := Option.some.inj ez
  have sT : Same H (upd H T (.tup [.int (i : Nat), u])) := same_new hT
  refine ⟨T, _, rfl, .inl (.inl upd_same), rfl, _, _, rfl, _, _, rfl, rfl, wipe_set2 h12, ?_⟩
  exact hs i u H _ R N eu s1 sT (fun e H4 s4 => h1 e H4 (sT.trans s4)) (fun e H4 s4 => h2 e H4 (sT.trans s4))

section
variable {P : Program} {w : World} {K : PySem.W.Frag} {mg : Str → Option Value} {base : Heap}

/-! ### is_whole -/
theorem scWhole : FnScope ["value", "low", "high"] ["value", "low", "high"] (defScope sWhole) := ⟨rfl, rfl, rfl, by decide +kernel, rfl, by decide +kernel, by decide +kernel⟩
def spWhole : Sp := fun vs H Q _ => ∃ v lo hi : Int, vs = [.int v, .int lo, .int hi] ∧ Q (.bl (decide (lo ≤ v ∧ v ≤ hi))) H
theorem has_whole (T : Txt K mg) (D : DefAt K mg "is_whole" sWhole) : Has P w K mg base CX0 1 "is_whole" ["value", "low", "high"] spWhole := by
  obtain ⟨f, fd, g, F⟩ := D
  refine ⟨f, fd, g, F.kp, F.binds (fun _ _ _ _ _ _ us hl => match us, hl with | [_, _, _], _ => rfl), F.ok scWhole (fun vs H Q E h => ?_) (fun cdv A outer s H vs Q E hr h => ?_)⟩
  · obtain ⟨v, lo, hi, rfl, _⟩ := h
    rfl
  · obtain ⟨v, lo, hi, rfl, q⟩ := h
    refine ⟨_, pss_one (ps_ret (pe_and (pe_callB call_isi (by rfl) T.isi boot_isinstance (pa_cons (pv 0) (pa_cons (pe_ty (by rfl) T.int boot_int) pa_nil)))
      (pe_and (pe_not (pe_callB call_isi (by rfl) T.isi boot_isinstance (pa_cons (pv 0) (pa_cons (pe_ty (by rfl) T.bool boot_bool) pa_nil))))
        (pe_one (pe_chain op_le op_le (pv 1) (pv 0) (pv 2)))))), ?_⟩
    refine ⟨_, rfl, _, _, _, _, true, rfl, .ty "int", .base (.int v), kit_ty (by decide +kernel), true, rfl, iteT ?_⟩
    refine ⟨_, rfl, _, _, _, _, false, rfl, .ty "bool", .base (.int v), kit_ty (by decide +kernel), false, rfl, true, rfl, iteT ?_⟩
    refine ⟨_, rfl, _, rfl, lo, v, rfl, rfl, _, rfl, ?_⟩
    by_cases c : lo ≤ v
    · rw [decide_eq_true c]
      refine iteT ⟨_, rfl, v, hi, rfl, rfl, ?_⟩
      show Q (.bl (decide (v ≤ hi))) H
      by_cases d : v ≤ hi
      · rw [decide_eq_true d]
        rw [decide_eq_true (⟨c, d⟩ : lo ≤ v ∧ v ≤ hi)] at q
        exact q
      · rw [decide_eq_false d]
        rw [decide_eq_false (fun z : lo ≤ v ∧ v ≤ hi => d z.2)] at q
        exact q
    · rw [decide_eq_false c]
      rw [decide_eq_false (fun z : lo ≤ v ∧ v ≤ hi => c z.1)] at q
      exact iteF q

/-! ### is_spelled -/
/-- all letters of z are a, b, c -/
def Abc (z : Str) : Prop := ∀ c ∈ z.cps.toList, c = 97 ∨ c = 98 ∨ c = 99
theorem scSpelled : FnScope ["value", "low", "high", "letter"] ["value", "low", "high"] (defScope sSpelled) := ⟨rfl, rfl, rfl, by decide +kernel, rfl, by decide +kernel, by decide +kernel⟩
def spSpelled : Sp := fun vs H Q _ => ∃ (z : Str) (lo hi : Int), vs = [.str z, .int lo, .int hi] ∧ Abc z ∧ lo ≤ z.length ∧ z.length ≤ hi ∧ z.length ≤ 1000 ∧ ∀ H', Same H H' → Q (.bl true) H'
theorem has_spelled (T : Txt K mg) (D : DefAt K mg "is_spelled" sSpelled) : Has P w K mg base CX0 1 "is_spelled" ["value", "low", "high"] spSpelled := by
  obtain ⟨f, fd, g, F⟩ := D
  obtain ⟨tl, hl⟩ := T.letters
  refine ⟨f, fd, g, F.kp, F.binds (fun _ _ _ _ _ _ us hl => match us, hl with | [_, _, _], _ => rfl), F.ok scSpelled (fun vs H Q E h => ?_) (fun cdv A outer s H vs Q E hr h => ?_)⟩
  · obtain ⟨z, lo, hi, rfl, _⟩ := h
    rfl
  · obtain ⟨z, lo, hi, rfl, habc, h1, h2, hz, q⟩ := h
    refine ⟨_, pss_one (ps_ret (pe_and (pe_callB call_isi (by rfl) T.isi boot_isinstance (pa_cons (pv 0) (pa_cons (pe_ty (by rfl) T.str boot_str) pa_nil)))
      (pe_and (pe_chain op_le op_le (pv 1) (pe_callB call_len (by rfl) T.len boot_len (pa_cons (pv 0) pa_nil)) (pv 2))
        (pe_one (pe_callB (cr_all rfl) (by rfl) T.all boot_all (pa_cons
          (pe_lc (own := [("letter", 3)]) (g := gName 3) (by rfl) scSpelled.nd (pi_str (pv 0)) (blkOk_by (own := [("letter", 3)]) (N := ["value", "low", "high", "letter"]) (sc := defScope sSpelled) (by decide +kernel))
            (fun _ _ _ _ _ => pg_name (i := 3) scSpelled.nd rfl (Or.inl rfl)) (fun _ _ _ _ _ => pts_nil) (fun _ _ _ _ _ => pe_cmpR op_in_sign (pv 3) (pe_glob (v := .str "abc") rfl hl ⟨_, rfl⟩) rfl)) pa_nil)))))), ?_⟩
    refine ⟨_, rfl, _, _, _, _, true, rfl, .ty "str", .base (.str z), kit_ty (by decide +kernel), true, rfl, iteT ?_⟩
    have zl : z.length ≤ sizeLine := Nat.le_of_lt (small1000 hz)
    refine ⟨_, rfl, _, rfl, _, z.length, rfl, ⟨zl, rfl⟩, lo, _, rfl, rfl, true, ?_, iteT ⟨_, rfl, _, hi, rfl, rfl, true, ?_, iteT ?_⟩⟩
    · exact congrArg V.bl (decide_eq_true h1)
    · exact congrArg V.bl (decide_eq_true h2)
    refine ⟨_, rfl, z, rfl, fun D hD => lc_map walk_str (fun _ => .bl true) hD zl (fun _ _ => trivial) (fun i x H' H2 R hi s1 y hR => ?_) (fun H' s1 e1 => ?_)⟩
    · obtain ⟨rfl, c, hc, rfl⟩ := y
      refine ⟨_, rfl, c, "abc", rfl, rfl, ?_⟩
      have hm : c ∈ z.cps.toList := by
        rw [Array.getElem?_eq_some_iff] at hc
        obtain ⟨h3, h4⟩ := hc
        rw [← h4]
        exact Array.getElem_mem_toList h3
      have e : decide (c ∈ (Str.ofString "abc").cps.toList) = true := by
        rcases habc c hm with z | z | z <;> (rw [z]; decide +kernel)
      rw [e]
      exact hR _ (Same.refl _)
    · refine ⟨D, List.replicate z.cps.size true, rfl, .inl (.inl ?_), ?_⟩
      · rw [e1, keptL_fun, List.map_replicate, List.map_const', List.length_range]
      · have e : (List.replicate z.cps.size true).all id = true := by simp
        rw [e]
        exact q _ s1

theorem trues {K : PySem.W.Frag} {H : Hp} {D : Addr} {n : Nat} (e : H D = some (.lst (keptL (fun _ => .bl true) (fun _ => true) n))) : SqL K H D ((List.replicate n true).map V.bl) := by
  rw [keptL_fun, List.map_const', List.length_range] at e
  rw [List.map_replicate]
  exact .inl (.inl e)
theorem trues_all (n : Nat) : (List.replicate n true).all id = true := by simp
/-! ### is_code -/
/-- a code: up to five words of up to three letters, no two alike -/
structure CodeOk (ws : List Str) : Prop where
  len : ws.length ≤ 5
  wd : ∀ z ∈ ws, 1 ≤ z.length ∧ z.length ≤ 3 ∧ Abc z
  nd : ws.Nodup
/-- the words as lists of letters -/
abbrev cd (ws : List Str) : List Wd := ws.map fun z => z.cps.toList
def CodeAt (H : Hp) (c : Addr) (ws : List Str) : Prop := H c = some (.tup (ws.map V.str))
theorem CodeAt.same {H H' : Hp} {c : Addr} {ws : List Str} (h : CodeAt H c ws) (s : Same H H') : CodeAt H' c ws := s _ _ h
theorem cut_to (xs : List V) (i : Nat) : cutV xs none (some (i : Int)) = xs.take i := by
  unfold cutV
  rw [HT.sIx_none, HT.sIx_nat, List.drop_zero, Nat.sub_zero]
  rcases Nat.le_total i xs.length with h | h
  · rw [Nat.min_eq_left h]
  · rw [Nat.min_eq_right h, List.take_length, List.take_of_length_le h]
theorem not_in_ahead {ws : List Str} (h : ws.Nodup) {i : Nat} {z : Str} (e : ws[i]? = some z) : inV (.str z) ((ws.map V.str).take i) = false := by
  unfold inV
  rw [List.any_eq_false]
  intro y hy
  rw [← List.map_take] at hy
  obtain ⟨u, hu, rfl⟩ := List.mem_map.mp hy
  obtain ⟨j, hj, e2⟩ := List.mem_iff_getElem.mp hu
  have hji : j < i := by
    rw [List.length_take] at hj
    omega
  rw [List.getElem_take] at e2
  intro e3
  have e4 : u = z := by simpa [eqV] using e3
  have hjl : j < ws.length := by
    rw [List.length_take] at hj
    omega
  have e5 : ws[j]? = some z := by rw [List.getElem?_eq_getElem hjl, e2, e4]
  exact absurd (nodup_at h e5 e) (Nat.ne_of_lt hji)
theorem flat_take (ws : List Str) (i : Nat) : ((ws.map V.str).take i).all flatV = true := List.all_eq_true.mpr fun x hx => by
  obtain ⟨u, _, rfl⟩ := List.mem_map.mp (List.mem_of_mem_take hx)
  rfl
theorem scIsCode : FnScope ["value", "word", "at"] ["value"] (defScope sIsCode) := ⟨rfl, rfl, rfl, by decide +kernel, rfl, by decide +kernel, by decide +kernel⟩
def spIsCode : Sp := fun vs H Q _ => ∃ (c : Addr) (ws : List Str), vs = [.ref c] ∧ CodeAt H c ws ∧ CodeOk ws ∧ ∀ H', Same H H' → Q (.bl true) H'
theorem has_isCode (T : Txt K mg) (D : DefAt K mg "is_code" sIsCode) (GS : Has P w K mg base CX0 1 "is_spelled" ["value", "low", "high"] spSpelled) : Has P w K mg base CX0 2 "is_code" ["value"] spIsCode := by
  obtain ⟨f, fd, g, F⟩ := D
  obtain ⟨t1, h1⟩ := T.mw
  obtain ⟨t2, h2⟩ := T.lw
  refine ⟨f, fd, g, F.kp, F.binds (fun _ _ _ _ _ _ us hl => match us, hl with | [_], _ => rfl), F.ok scIsCode (fun vs H Q E h => ?_) (fun cdv A outer s H vs Q E hr h => ?_)⟩
  · obtain ⟨c, ws, rfl, _⟩ := h
    rfl
  · obtain ⟨c, ws, rfl, hc, ok, q⟩ := h
    refine ⟨_, pss_cons (ps_if (PW.pt (pw_or (pt_not (pt_val (pe_callB call_isi (by rfl) T.isi boot_isinstance (pa_cons (pv 0) (pa_cons (pe_ty (by rfl) T.tup boot_tuple) pa_nil)))))
        (pw_or1 (pt_cmpR op_gt (pe_callB call_len (by rfl) T.len boot_len (pa_cons (pv 0) pa_nil)) (pe_glob (v := .int 6) rfl h1 ⟨_, rfl⟩) (nomark _))))) (pss_one (ps_ret pe_bl)) pss_nil)
      (pss_cons (ps_if (pt_not (pt_val (pe_callB (cr_all rfl) (by rfl) T.all boot_all (pa_cons
          (pe_lc (own := [("word", 1)]) (g := gName 1) (by rfl) scIsCode.nd (pi_tup (pv 0)) (blkOk_by (own := [("word", 1)]) (N := ["value", "word", "at"]) (sc := defScope sIsCode) (by decide +kernel))
            (fun _ _ _ _ _ => pg_name (i := 1) scIsCode.nd rfl (Or.inl rfl)) (fun _ _ _ _ _ => pts_nil) (fun _ _ _ _ _ => pe_has GS hr (by rfl) (pa_cons (pv 1) (pa_cons pe_int (pa_cons (pe_glob (v := .int 5) rfl h2 ⟨_, rfl⟩) pa_nil))))) pa_nil)))) (pss_one (ps_ret pe_bl)) pss_nil)
      (pss_one (ps_ret (pe_callB (cr_all rfl) (by rfl) T.all boot_all (pa_cons
          (pe_lc (own := [("at", 2), ("word", 1)]) (g := gTup K 2 (gCons (gName 2) (gCons (gName 1) gNil))) (by rfl) scIsCode.nd (pi_en (by rfl) T.enu (pa_cons (pv 0) pa_nil)) (blkOk_by (own := [("at", 2), ("word", 1)]) (N := ["value", "word", "at"]) (sc := defScope sIsCode) (by decide +kernel))
            (fun _ _ _ _ _ => pg_tup (by rfl) (pgs_cons (pg_name (i := 2) scIsCode.nd rfl (Or.inl rfl)) (pgs_cons (pg_name (i := 1) scIsCode.nd rfl (Or.inl rfl)) pgs_nil))) (fun _ _ _ _ _ => pts_nil)
            (fun _ _ _ _ _ => pe_cmpR (r := rIn K true) (by exact op_notIn_seq) (pv 1) (pe_slice (r := rSlT K) (by exact sl_tup) (pv 0) po_none (po_some (pv 2))) rfl)) pa_nil))))), ?_⟩
    have lw : ws.length ≤ sizeLine := Nat.le_of_lt (small1000 (Nat.le_trans ok.len (by decide)))
    refine ⟨_, rfl, _, _, _, _, true, rfl, .ty "tuple", .base (.tup hc), kit_ty (by decide +kernel), true, rfl, iteF ?_⟩
    refine ⟨_, rfl, _, (ws.map V.str).length, rfl, .inr ⟨_, .inl (.inl hc), rfl⟩, _, 6, rfl, rfl, false, ?_, iteF ?_⟩
    · refine congrArg V.bl (decide_eq_false ?_)
      have := ok.len
      rw [List.length_map]
      omega
    refine ⟨_, rfl, c, rfl, ⟨_, .inl (.inl hc)⟩, fun D hD => lc_map (walk_tup (xs := ws.map V.str)) (fun _ => .bl true) hD (by rw [List.length_map]; exact lw) (fun H' s1 => .inl (.inl (s1 _ _ hc))) (fun i x H1 H2 R hi s1 y hR => ?_) (fun H1 s1 e1 => ?_)⟩
    · obtain ⟨rfl, hx⟩ := y
      rw [List.getElem?_map] at hx
      cases hz : ws[i]? with
      | none =>
        rw [hz] at hx
        cases hx
      | some z =>
        rw [hz] at hx
        obtain rfl : V.str z = x := Option.some.inj hx
        obtain ⟨w1, w2, w3⟩ := ok.wd z (List.mem_of_getElem? hz)
        refine ⟨_, rfl, z, 1, 5, rfl, w3, by omega, by omega, by omega, fun H4 s4 => hR H4 s4⟩
    · refine ⟨D, _, rfl, trues e1, _, rfl, ?_⟩
      rw [trues_all]
      refine iteF ?_
      have hc1 := hc.same s1
      refine ⟨_, rfl, c, _, rfl, .inl (.inl hc1), fun D2 hD2 => lc_en hc1 (by decide) (fun _ => .bl true) (fun _ => true) hD2 (by rw [List.length_map]; exact lw) (fun i x H2 H3 R N hx s2 s3 hR _ => ?_) (fun H2 s2 e2 => ?_)⟩
      · rw [List.getElem?_map] at hx
        cases hz : ws[i]? with
        | none =>
          rw [hz] at hx
          cases hx
        | some z =>
          rw [hz] at hx
          obtain rfl : V.str z = x := Option.some.inj hx
          have hi : i < ws.length := (List.getElem?_eq_some_iff.mp hz).1
          have hc3 := (hc1.same s2).same s3
          refine iteT (B := N H3) ⟨_, rfl, _, rfl, _, rfl, _, rfl, c, _, rfl, .inl (.inl hc3), ?_, fun p hp => ?_⟩
          · rw [HT.sIx_none, HT.sIx_nat, List.length_map]
            omega
          · refine ⟨p, _, rfl, .inr (.inl (.inl upd_same)), rfl, ?_, ?_⟩
            · rw [cut_to]
              exact flat_take ws i
            · rw [cut_to, not_in_ahead ok.nd hz]
              exact hR rfl _ (same_new hp)
      · refine ⟨D2, _, rfl, trues e2, ?_⟩
        rw [trues_all]
        exact q _ (s1.trans s2)
end
end K02
/-! ways_from and what stands on it in codes.py -/
namespace K02
open PySem PySem.Spec PyProof.Rows L2

/-! ### texts as lists -/
abbrev cs (z : Str) : Wd := z.cps.toList
theorem cs_len (z : Str) : (cs z).length = z.length := Array.length_toList
theorem cs_inj {z u : Str} (h : cs z = cs u) : z = u := by
  obtain ⟨a⟩ := z
  obtain ⟨b⟩ := u
  have e : a = b := Array.toList_inj.mp h
  rw [e]
theorem cut_word (z : Str) (a n : Nat) (h : a ≤ z.length) : cs (cutS z (some (a : Int)) (some ((a : Int) + (n : Nat)))) = ((cs z).drop a).take n := by
  unfold cutS
  have e : ((a : Int) + (n : Nat)) = ((a + n : Nat) : Int) := by omega
  rw [e, HT.sIx_nat, HT.sIx_nat]
  show ((cs z).drop (min a z.length)).take (min (a + n) z.length - min a z.length) = _
  rw [Nat.min_eq_left h]
  rcases Nat.le_total (a + n) z.length with q | q
  · rw [Nat.min_eq_left q, Nat.add_sub_cancel_left]
  · rw [Nat.min_eq_right q, List.take_of_length_le (by rw [List.length_drop, cs_len]; exact Nat.le_refl _), List.take_of_length_le (by rw [List.length_drop, cs_len]; omega)]
theorem str_eq_iff {z u : Str} : decide (V.str z = V.str u) = decide (cs z = cs u) := decide_eq_decide.mpr ⟨fun h => by rw [V.str.inj h], fun h => by rw [cs_inj h]⟩

/-! ### the mathematics of the list -/
/-- how many parses stand behind each place -/
def waysL (C : List Wd) : Wd → List Nat
  | [] => [cnt C []]
  | c :: t => cnt C (c :: t) :: waysL C t
theorem waysL_get {C : List Wd} : ∀ (t : Wd) (j : Nat), j ≤ t.length → (waysL C t)[j]? = some (cnt C (t.drop j))
  | [], j, h => by
    have : j = 0 := by simpa using h
    subst this
    rfl
  | c :: t, 0, _ => rfl
  | c :: t, j + 1, h => waysL_get t j (by simpa using h)
theorem waysL_len {C : List Wd} : ∀ t : Wd, (waysL C t).length = t.length + 1
  | [] => rfl
  | c :: t => by
    show (waysL C t).length + 1 = t.length + 1 + 1
    rw [waysL_len t]
theorem sum_filter {p : Nat → Bool} {f g : Nat → Int} : ∀ (L : List Nat), (∀ i ∈ L, g i = if p i = true then f i else 0) → ((L.filter p).map f).sum = (L.map g).sum
  | [], _ => rfl
  | i :: L, h => by
    have ih := sum_filter L fun j hj => h j (List.mem_cons_of_mem _ hj)
    have hi := h i List.mem_cons_self
    rw [List.map_cons, List.sum_cons, ← ih, hi]
    cases e : p i with
    | true => rw [List.filter_cons_of_pos e, List.map_cons, List.sum_cons, if_pos rfl]
    | false => rw [List.filter_cons_of_neg (by rw [e]; decide), if_neg (by decide), Int.zero_add]
theorem range_getD {C : List Wd} {g : Wd → Int} : (List.range C.length).map (fun i => g (C.getD i [])) = C.map g := by
  refine List.ext_getElem (by simp) fun i h1 h2 => ?_
  have hi : i < C.length := by simpa using h2
  rw [List.getElem_map, List.getElem_map, List.getElem_range, getD_of (List.getElem?_eq_getElem hi)]
theorem sum_cast : ∀ l : List Nat, (l.map fun n : Nat => (n : Int)).sum = ((l.sum : Nat) : Int)
  | [] => rfl
  | a :: l => by
    rw [List.map_cons, List.sum_cons, List.sum_cons, sum_cast l]
    omega
/-- the numbers that a turn adds up -/
theorem turn_sum {C : List Wd} (hC : PosW C) {t : Wd} (h0 : t ≠ []) : (((List.range C.length).filter fun i => decide (t.take (C.getD i []).length = C.getD i [])).map fun i => ((cnt C (t.drop (C.getD i []).length) : Nat) : Int)).sum = ((cnt C t : Nat) : Int) := by
  rw [sum_filter (g := fun i => ((wcnt C t (C.getD i []) : Nat) : Int)), range_getD (g := fun w => ((wcnt C t w : Nat) : Int)), cnt_step hC h0, ← sum_cast, List.map_map]
  · rfl
  · intro i _
    show ((wcnt C t (C.getD i []) : Nat) : Int) = _
    unfold wcnt
    by_cases h : t.take (C.getD i []).length = C.getD i []
    · rw [if_pos h, if_pos (decide_eq_true h)]
    · rw [if_neg h, if_neg (by rw [decide_eq_false h]; decide)]
      rfl
theorem CodeOk.pos {ws : List Str} (ok : CodeOk ws) : PosW (cd ws) := fun w hw => by
  obtain ⟨z, hz, rfl⟩ := List.mem_map.mp hw
  have := (ok.wd z hz).1
  rw [← cs_len z] at this
  exact this
theorem cd_get {ws : List Str} {i : Nat} {z : Str} (h : ws[i]? = some z) : (cd ws)[i]? = some (cs z) := by
  rw [List.getElem?_map, h]
  rfl
abbrev iN (n : Nat) : V := .int (n : Int)

section
variable {P : Program} {w : World} {K : PySem.W.Frag} {mg : Str → Option Value} {base : Heap}

/-! ### ways_from -/
theorem scWays : FnScope ["code", "string", "found", "at", "word"] ["code", "string"] (defScope sWays) := ⟨rfl, rfl, rfl, by decide +kernel, rfl, by decide +kernel, by decide +kernel⟩
def spWays : Sp := fun vs H Q _ => ∃ (c : Addr) (ws : List Str) (z : Str), vs = [.ref c, .str z] ∧ CodeAt H c ws ∧ CodeOk ws ∧ z.length ≤ 900 ∧
  ∀ H' p, Same H H' → H p = none → H' p = some (.lst ((waysL (cd ws) (cs z)).map iN)) → Q (.ref p) H'
theorem has_ways (T : Txt K mg) (D : DefAt K mg "ways_from" sWays) : Has P w K mg base CX0 1 "ways_from" ["code", "string"] spWays := by
  obtain ⟨f, fd, g, F⟩ := D
  refine ⟨f, fd, g, F.kp, F.binds (fun _ _ _ _ _ _ us hl => match us, hl with | [_, _], _ => rfl), F.ok scWays (fun vs H Q E h => ?_) (fun cdv A outer s H vs Q E hr h => ?_)⟩
  · obtain ⟨c, ws, z, rfl, _⟩ := h
    rfl
  · obtain ⟨c, ws, z, rfl, hc, ok, hz, q⟩ := h
    refine ⟨_, pss_cons (ps_set (i := 2) scWays.nd rfl (Or.inr rfl) (pe_lst (pa_cons pe_int pa_nil)))
      (pss_cons (ps_for PassesOwn.never rfl (pi_range3 (by rfl) T.rng (pa_cons (pe_op op_sub (pe_callB call_len_str (by rfl) T.len boot_len (pa_cons (pv 1) pa_nil)) pe_int) (pa_cons (pe_un un_neg pe_int) (pa_cons (pe_un un_neg pe_int) pa_nil))))
          (pg_name (i := 3) scWays.nd rfl (Or.inr rfl))
        (pss_one (ps_set (i := 2) scWays.nd rfl (Or.inr rfl) (pe_op op_cat (pe_lst (pa_cons (pe_callB (cr_sum rfl) (by rfl) T.sum boot_sum (pa_cons
          (pe_lc (own := [("word", 4)]) (g := gName 4) (by rfl) scWays.nd (pi_tup (pv 0)) (blkOk_by (own := [("word", 4)]) (N := ["code", "string", "found", "at", "word"]) (sc := defScope sWays) (by decide +kernel))
            (fun _ _ _ _ _ => pg_name (i := 4) scWays.nd rfl (Or.inl rfl))
            (fun _ _ _ _ _ => pts_one (pt_cmpR op_eq (pe_slice sl_str (pv 1) (po_some (pv 3)) (po_some (pe_op op_add (pv 3) (pe_callB call_len_str (by rfl) T.len boot_len (pa_cons (pv 4) pa_nil))))) (pv 4) (nomark _)))
            (fun _ _ _ _ _ => pe_ix (r := rIxL K) (by exact ix_list) (pv 2) (pe_op op_sub (pe_callB call_len_str (by rfl) T.len boot_len (pa_cons (pv 4) pa_nil)) pe_int) (fun _ _ => rfl))) pa_nil)) pa_nil)) (pv 2)))))
      (pss_one (ps_ret (pv 2)))), ?_⟩
    have zl : z.length ≤ sizeLine := Nat.le_of_lt (small1000 (by omega))
    have lw : ws.length ≤ sizeLine := Nat.le_of_lt (small1000 (Nat.le_trans ok.len (by decide)))
    have hC := ok.pos
    refine ⟨(by decide : 1 ≤ sizeLine), fun p0 n0 => ?_⟩
    have rg : RgC ((z.length : Int) - 1) (-1) (-1) z.length := by
      have r := RgC.neg (i := (z.length : Int) - 1) (j := -1) (by omega) (by omega) (by omega) (by omega)
      have e : ((z.length : Int) - 1 - -1).toNat = z.length := by omega
      rw [e] at r
      exact r
    refine ⟨_, rfl, z, rfl, zl, _, _, rfl, rfl, _, rfl, _, rfl, _, _, _, z.length, rfl, rg, for_it walk_rangeC
      (fun i σ H' => ∃ p y3 y4, σ = [some (.ref c), some (.str z), some (.ref p), y3, y4] ∧ Same H H' ∧ H p = none ∧ H' p = some (.lst ((waysL (cd ws) ((cs z).drop (z.length - i))).map iN)))
      ⟨p0, none, none, rfl, same_new n0, n0, ?_⟩ (fun _ _ _ _ _ => trivial) (fun i x σ H2 H3 hi hP hY => ?_) (fun σ H2 hP => ?_)⟩
    · rw [upd_same, Nat.sub_zero, List.drop_of_length_le (by rw [cs_len]; exact Nat.le_refl _)]
      show some (HO.lst [.int 1]) = some (HO.lst [iN (cnt (cd ws) [])])
      rw [cnt_nil]
      rfl
    · obtain ⟨p, y3, y4, rfl, s2, np, ep⟩ := hP
      obtain ⟨rfl, hx⟩ := hY
      have ea : x = V.int ((z.length - 1 - i : Nat) : Int) := hx.trans (congrArg V.int (by show (z.length : Int) - 1 + (i : Int) * -1 = _; omega))
      clear hx
      subst ea
      have ha : z.length - 1 - i < z.length := by omega
      generalize hga : z.length - 1 - i = a at ha ⊢
      have hL : z.length - i = a + 1 := by omega
      rw [hL] at ep
      have hc2 : CodeAt H3 c ws := hc.same s2
      have tl : ((cs z).drop a).length = z.length - a := by rw [List.length_drop, cs_len]
      have t0 : (cs z).drop a ≠ [] := fun e => by
        have q := congrArg List.length e
        rw [tl, List.length_nil] at q
        omega
      refine ⟨_, rfl, c, rfl, ⟨_, .inl (.inl hc2)⟩, fun D hD => lc_do (walk_tup (xs := ws.map V.str))
        (fun j => .int ((cnt (cd ws) (((cs z).drop a).drop ((cd ws).getD j []).length) : Nat) : Int)) (fun j => decide (((cs z).drop a).take ((cd ws).getD j []).length = (cd ws).getD j [])) hD
        (by rw [List.length_map]; exact lw) (fun H' s1 => .inl (.inl (s1 _ _ hc2))) (fun j x H4 H5 R N hj s4 y hR hN => ?_) (fun H4 s4 e4 => ?_)⟩
      · obtain ⟨rfl, hx⟩ := y
        rw [List.getElem?_map] at hx
        cases hu : ws[j]? with
        | none =>
          rw [hu] at hx
          cases hx
        | some u =>
          rw [hu] at hx
          obtain rfl : V.str u = x := Option.some.inj hx
          obtain ⟨w1, w2, w3⟩ := ok.wd u (List.mem_of_getElem? hu)
          have ul : u.length ≤ sizeLine := Nat.le_of_lt (small1000 (by omega))
          rw [getD_of (cd_get hu)] at hR hN
          have key : decide (V.str (cutS z (some (a : Int)) (some ((a : Int) + (u.length : Nat)))) = V.str u) = decide (((cs z).drop a).take (cs u).length = cs u) := by
            rw [str_eq_iff, cut_word z a u.length (by omega), cs_len]
          refine ⟨wipe_set1, _, rfl, _, rfl, _, rfl, _, rfl, _, rfl, u, rfl, ul, _, _, rfl, rfl, _, rfl, z, rfl, zl, _, rfl, rfl, _, rfl, ?_⟩
          rw [key]
          by_cases m : ((cs z).drop a).take (cs u).length = cs u
          · rw [decide_eq_true m]
            have hle := take_len m
            rw [tl, cs_len] at hle
            refine iteT ⟨_, rfl, _, rfl, u, rfl, ul, _, _, rfl, rfl, p, _, _, _, rfl, rfl, .inl (.inl (s4 _ _ ep)), at_of (j := u.length - 1) (by omega) ?_, hR (decide_eq_true m) _ (Same.refl _)⟩
            rw [List.getElem?_map, waysL_get _ _ (by rw [List.length_drop, cs_len]; omega), List.drop_drop, List.drop_drop, cs_len]
            have e : a + 1 + (u.length - 1) = a + u.length := by omega
            rw [e]
            rfl
          · rw [decide_eq_false m]
            exact iteF (hN (decide_eq_false m) _ (Same.refl _))
      · have e5 : H4 D = some (.lst ((((List.range (cd ws).length).filter fun i => decide (((cs z).drop a).take ((cd ws).getD i []).length = (cd ws).getD i [])).map fun i => ((cnt (cd ws) (((cs z).drop a).drop ((cd ws).getD i []).length) : Nat) : Int)).map V.int)) := by
          rw [e4, List.map_map]
          unfold keptL
          rw [List.length_map, List.length_map]
          rfl
        refine ⟨D, _, rfl, .inl (.inl e5), ?_⟩
        rw [turn_sum hC t0]
        refine ⟨(by decide : 1 ≤ sizeLine), fun p1 n1 => ?_⟩
        have s5 : Same H3 (upd H4 p1 (.lst [.int ((cnt (cd ws) ((cs z).drop a) : Nat) : Int)])) := s4.trans (same_new n1)
        refine ⟨_, rfl, p1, p, _, _, rfl, rfl, upd_same, s5 _ _ ep, ?_, fun p2 n2 => ?_⟩
        · rw [List.length_map, waysL_len, List.length_drop, cs_len]
          exact Nat.le_of_lt (small1000 (by show 1 + _ ≤ 1000; omega))
        · have s6 : Same H (upd (upd H4 p1 (.lst [.int ((cnt (cd ws) ((cs z).drop a) : Nat) : Int)])) p2 (.lst ([.int ((cnt (cd ws) ((cs z).drop a) : Nat) : Int)] ++ (waysL (cd ws) ((cs z).drop (a + 1))).map iN))) := (s2.trans s5).trans (same_new n2)
          refine ⟨p2, some (.int (a : Int)), y4, rfl, s6, (s2.trans s5).free n2, ?_⟩
          have e6 : z.length - (i + 1) = a := by omega
          rw [upd_same, e6]
          have hlt : a < (cs z).length := by rw [cs_len]; exact ha
          rw [List.drop_eq_getElem_cons hlt]
          rfl
    · obtain ⟨p, y3, y4, rfl, s2, np, ep⟩ := hP
      rw [Nat.sub_self, List.drop_zero] at ep
      exact ⟨_, rfl, q _ _ s2 np ep⟩
end
end K02
/-! the checks, and what counts -/
namespace K02
open PySem PySem.Spec PyProof.Rows L2
/-- len, told over the written part K -/
def rLen (K : PySem.W.Frag) : List V → Hp → VK → Prop := fun xs H Q => ∃ x n, xs = [x] ∧ LenV K x H n ∧ Q (.int n) H
theorem cr_len {X : Cx} : CallR X (.builtin "len") (rLen X.K) := call_len
/-- the tuple at p: the numbers q -/
def NumAt (H : Hp) (p : Addr) (q : List Nat) : Prop := H p = some (.tup (pV q))
theorem NumAt.same {H H' : Hp} {p : Addr} {q : List Nat} (h : NumAt H p q) (s : Same H H') : NumAt H' p q := s _ _ h
theorem fold_cs : ∀ (l : List Str) (acc : Array Nat), (l.foldl (fun acc p => acc ++ (Str.ofString "").cps ++ p.cps) acc).toList = acc.toList ++ (l.map cs).flatten
  | [], acc => by simp
  | a :: l, acc => by
    rw [List.foldl_cons, fold_cs l]
    have e : (Str.ofString "").cps = #[] := by decide +kernel
    rw [e, List.map_cons, List.flatten_cons, Array.toList_append, Array.toList_append]
    simp
theorem join_cs : ∀ ys : List Str, cs (Txt.join (Str.ofString "") ys) = (ys.map cs).flatten
  | [] => by decide +kernel
  | a :: l => by
    show (((a :: l).drop 1).foldl (fun acc p => acc ++ (Str.ofString "").cps ++ p.cps) a.cps).toList = _
    rw [fold_cs]
    rfl
theorem jn_flat {ws : List Str} : ∀ {r : List Nat}, ValP (cd ws) r → jn (cd ws) r = ((r.map fun n => ws.getD n Str.empty).map cs).flatten
  | [], _ => rfl
  | n :: r, h => by
    have hn := h n List.mem_cons_self
    rw [List.length_map] at hn
    have e : ws[n]? = some ws[n] := List.getElem?_eq_getElem hn
    rw [jn_cons, jn_flat fun i hi => h i (List.mem_cons_of_mem _ hi), getD_of (cd_get e), List.map_cons, List.map_cons, List.flatten_cons, List.getD_eq_getElem?_getD, e]
    rfl
theorem jn_lens {ws : List Str} : ∀ {r : List Nat}, ValP (cd ws) r → (r.map fun n => (ws.getD n Str.empty).length).sum = (jn (cd ws) r).length
  | [], _ => rfl
  | n :: r, h => by
    have hn := h n List.mem_cons_self
    rw [List.length_map] at hn
    have e : ws[n]? = some ws[n] := List.getElem?_eq_getElem hn
    rw [jn_cons, List.map_cons, List.sum_cons, jn_lens fun i hi => h i (List.mem_cons_of_mem _ hi), getD_of (cd_get e), List.length_append, List.getD_eq_getElem?_getD, e, cs_len]
    rfl
/-- no more words than letters -/
theorem jn_many {ws : List Str} (hC : PosW (cd ws)) : ∀ {r : List Nat}, ValP (cd ws) r → r.length ≤ (jn (cd ws) r).length
  | [], _ => Nat.zero_le _
  | n :: r, h => by
    have hn := h n List.mem_cons_self
    have e : (cd ws)[n]? = some (cd ws)[n] := List.getElem?_eq_getElem hn
    have h1 := hC _ (List.getElem_mem hn)
    have ih := jn_many hC (r := r) fun i hi => h i (List.mem_cons_of_mem _ hi)
    rw [jn_cons, getD_of e, List.length_append, List.length_cons]
    omega
theorem val_at {ws : List Str} {q : List Nat} (h : ValP (cd ws) q) {i n : Nat} (e : q[i]? = some n) : ∃ z, ws[n]? = some z := by
  have := h n (List.mem_of_getElem? e)
  rw [List.length_map] at this
  exact ⟨_, List.getElem?_eq_getElem this⟩
theorem pV_at {q : List Nat} {i : Nat} {x : V} (h : (pV q)[i]? = some x) : ∃ n, q[i]? = some n ∧ x = iN n := by
  rw [List.getElem?_map] at h
  cases e : q[i]? with
  | none =>
    rw [e] at h
    cases h
  | some n =>
    rw [e] at h
    exact ⟨n, rfl, (Option.some.inj h).symm⟩
section
variable {P : Program} {w : World} {K : PySem.W.Frag} {mg : Str → Option Value} {base : Heap}

/-! ### parses_of -/
theorem scParsesOf : FnScope ["code", "string"] ["code", "string"] (defScope sParsesOf) := ⟨rfl, rfl, rfl, by decide +kernel, rfl, by decide +kernel, by decide +kernel⟩
def spParses : Sp := fun vs H Q _ => ∃ (c : Addr) (ws : List Str) (z : Str), vs = [.ref c, .str z] ∧ CodeAt H c ws ∧ CodeOk ws ∧ z.length ≤ 900 ∧ ∀ H', Same H H' → Q (iN (cnt (cd ws) (cs z))) H'
theorem has_parsesOf (D : DefAt K mg "parses_of" sParsesOf) (GW : Has P w K mg base CX0 1 "ways_from" ["code", "string"] spWays) : Has P w K mg base CX0 2 "parses_of" ["code", "string"] spParses := by
  obtain ⟨f, fd, g, F⟩ := D
  refine ⟨f, fd, g, F.kp, F.binds (fun _ _ _ _ _ _ us hl => match us, hl with | [_, _], _ => rfl), F.ok scParsesOf (fun vs H Q E h => ?_) (fun cdv A outer s H vs Q E hr h => ?_)⟩
  · obtain ⟨c, ws, z, rfl, _⟩ := h
    rfl
  · obtain ⟨c, ws, z, rfl, hc, ok, hz, q⟩ := h
    refine ⟨_, pss_one (ps_ret (pe_ix ix_list (pe_has GW hr (by rfl) (pa_cons (pv 0) (pa_cons (pv 1) pa_nil))) pe_int (fun _ _ => rfl))), ?_⟩
    refine ⟨_, rfl, _, rfl, c, ws, z, rfl, hc, ok, hz, fun H' p s1 np ep => ⟨p, _, 0, _, rfl, rfl, .inl (.inl ep), at_of (j := 0) rfl ?_, q _ s1⟩⟩
    rw [List.getElem?_map, waysL_get _ _ (Nat.zero_le _)]
    rfl

/-! ### is_string -/
theorem scIsString : FnScope ["value"] ["value"] (defScope sIsString) := ⟨rfl, rfl, rfl, by decide +kernel, rfl, by decide +kernel, by decide +kernel⟩
def spIsString : Sp := fun vs H Q _ => ∃ z : Str, vs = [.str z] ∧ Abc z ∧ z.length ≤ 24 ∧ ∀ H', Same H H' → Q (.bl true) H'
theorem has_isString (T : Txt K mg) (D : DefAt K mg "is_string" sIsString) (GS : Has P w K mg base CX0 1 "is_spelled" ["value", "low", "high"] spSpelled) : Has P w K mg base CX0 2 "is_string" ["value"] spIsString := by
  obtain ⟨f, fd, g, F⟩ := D
  obtain ⟨t1, h1⟩ := T.ls
  refine ⟨f, fd, g, F.kp, F.binds (fun _ _ _ _ _ _ us hl => match us, hl with | [_], _ => rfl), F.ok scIsString (fun vs H Q E h => ?_) (fun cdv A outer s H vs Q E hr h => ?_)⟩
  · obtain ⟨z, rfl, _⟩ := h
    rfl
  · obtain ⟨z, rfl, ha, hz, q⟩ := h
    refine ⟨_, pss_one (ps_ret (pe_has GS hr (by rfl) (pa_cons (pv 0) (pa_cons pe_int (pa_cons (pe_glob (v := .int 24) rfl h1 ⟨_, rfl⟩) pa_nil))))), ?_⟩
    exact ⟨_, rfl, z, 0, 24, rfl, ha, by omega, by omega, by omega, q⟩

/-! ### is_parse -/
theorem scIsParse : FnScope ["code", "value", "number"] ["code", "value"] (defScope sIsParse) := ⟨rfl, rfl, rfl, by decide +kernel, rfl, by decide +kernel, by decide +kernel⟩
def spIsParse : Sp := fun vs H Q _ => ∃ (c : Addr) (ws : List Str) (p : Addr) (r : List Nat), vs = [.ref c, .ref p] ∧ CodeAt H c ws ∧ CodeOk ws ∧ NumAt H p r ∧ ValP (cd ws) r ∧ r.length ≤ 100 ∧ ∀ H', Same H H' → Q (.bl true) H'
theorem has_isParse (T : Txt K mg) (D : DefAt K mg "is_parse" sIsParse) (GH : Has P w K mg base CX0 1 "is_whole" ["value", "low", "high"] spWhole) : Has P w K mg base CX0 2 "is_parse" ["code", "value"] spIsParse := by
  obtain ⟨f, fd, g, F⟩ := D
  refine ⟨f, fd, g, F.kp, F.binds (fun _ _ _ _ _ _ us hl => match us, hl with | [_, _], _ => rfl), F.ok scIsParse (fun vs H Q E h => ?_) (fun cdv A outer s H vs Q E hr h => ?_)⟩
  · obtain ⟨c, ws, p, r, rfl, _⟩ := h
    rfl
  · obtain ⟨c, ws, p, r, rfl, hc, ok, hp, hv, hl, q⟩ := h
    refine ⟨_, pss_one (ps_ret (pe_and (pe_callB call_isi (by rfl) T.isi boot_isinstance (pa_cons (pv 1) (pa_cons (pe_ty (by rfl) T.tup boot_tuple) pa_nil)))
      (pe_one (pe_callB (cr_all rfl) (by rfl) T.all boot_all (pa_cons
          (pe_lc (own := [("number", 2)]) (g := gName 2) (by rfl) scIsParse.nd (pi_tup (pv 1)) (blkOk_by (own := [("number", 2)]) (N := ["code", "value", "number"]) (sc := defScope sIsParse) (by decide +kernel))
            (fun _ _ _ _ _ => pg_name (i := 2) scIsParse.nd rfl (Or.inl rfl)) (fun _ _ _ _ _ => pts_nil)
            (fun _ _ _ _ _ => pe_has GH hr (by rfl) (pa_cons (pv 2) (pa_cons pe_int (pa_cons (pe_op op_sub (pe_callB (r := rLen K) (by exact cr_len) (by rfl) T.len boot_len (pa_cons (pv 0) pa_nil)) pe_int) pa_nil))))) pa_nil))))), ?_⟩
    refine ⟨_, rfl, _, _, _, _, true, rfl, .ty "tuple", .base (.tup hp), kit_ty (by decide +kernel), true, rfl, iteT ?_⟩
    refine ⟨_, rfl, p, rfl, ⟨_, .inl (.inl hp)⟩, fun D hD => lc_map (walk_tup (xs := pV r)) (fun _ => .bl true) hD (by rw [List.length_map]; exact Nat.le_of_lt (small1000 (by omega))) (fun H' s1 => .inl (.inl (s1 _ _ hp))) (fun i x H1 H2 R hi s1 y hR => ?_) (fun H1 s1 e1 => ?_)⟩
    · obtain ⟨rfl, hx⟩ := y
      obtain ⟨n, hn, rfl⟩ := pV_at hx
      have hlt := hv n (List.mem_of_getElem? hn)
      rw [List.length_map] at hlt
      refine ⟨_, rfl, _, rfl, _, (ws.map V.str).length, rfl, .inr ⟨_, .inl (.inl (hc.same s1)), rfl⟩, _, _, rfl, rfl, (n : Int), 0, _, rfl, ?_⟩
      rw [List.length_map, decide_eq_true (by omega : (0 : Int) ≤ (n : Int) ∧ (n : Int) ≤ (ws.length : Int) - 1)]
      exact hR _ (Same.refl _)
    · refine ⟨D, _, rfl, trues e1, ?_⟩
      rw [trues_all]
      exact q _ s1

/-! ### check_code, check_string -/
theorem scCheckCode : FnScope ["code"] ["code"] (defScope sCheckCode) := ⟨rfl, rfl, rfl, by decide +kernel, rfl, by decide +kernel, by decide +kernel⟩
def spCheckCode : Sp := fun vs H Q _ => ∃ (c : Addr) (ws : List Str), vs = [.ref c] ∧ CodeAt H c ws ∧ CodeOk ws ∧ ∀ H', Same H H' → Q .non H'
theorem has_checkCode (D : DefAt K mg "check_code" sCheckCode) (GC : Has P w K mg base CX0 2 "is_code" ["value"] spIsCode) : Has P w K mg base CX0 3 "check_code" ["code"] spCheckCode := by
  obtain ⟨f, fd, g, F⟩ := D
  refine ⟨f, fd, g, F.kp, F.binds (fun _ _ _ _ _ _ us hl => match us, hl with | [_], _ => rfl), F.ok scCheckCode (fun vs H Q E h => ?_) (fun cdv A outer s H vs Q E hr h => ?_)⟩
  · obtain ⟨c, ws, rfl, _⟩ := h
    rfl
  · obtain ⟨c, ws, rfl, hc, ok, q⟩ := h
    refine ⟨_, pss_one (ps_if (pt_not (pt_val (pe_has GC hr (by rfl) (pa_cons (pv 0) pa_nil)))) (pss_one ps_never) pss_nil), ?_⟩
    exact ⟨_, rfl, c, ws, rfl, hc, ok, fun H' s1 => ⟨_, rfl, iteF (q _ s1)⟩⟩
theorem scCheckString : FnScope ["code", "string"] ["code", "string"] (defScope sCheckString) := ⟨rfl, rfl, rfl, by decide +kernel, rfl, by decide +kernel, by decide +kernel⟩
def spCheckString : Sp := fun vs H Q _ => ∃ (c : Addr) (ws : List Str) (z : Str), vs = [.ref c, .str z] ∧ CodeAt H c ws ∧ CodeOk ws ∧ Abc z ∧ z.length ≤ 24 ∧ ∀ H', Same H H' → Q .non H'
theorem has_checkString (D : DefAt K mg "check_string" sCheckString) (GC : Has P w K mg base CX0 3 "check_code" ["code"] spCheckCode) (GS : Has P w K mg base CX0 2 "is_string" ["value"] spIsString) :
    Has P w K mg base CX0 4 "check_string" ["code", "string"] spCheckString := by
  obtain ⟨f, fd, g, F⟩ := D
  refine ⟨f, fd, g, F.kp, F.binds (fun _ _ _ _ _ _ us hl => match us, hl with | [_, _], _ => rfl), F.ok scCheckString (fun vs H Q E h => ?_) (fun cdv A outer s H vs Q E hr h => ?_)⟩
  · obtain ⟨c, ws, z, rfl, _⟩ := h
    rfl
  · obtain ⟨c, ws, z, rfl, hc, ok, ha, hz, q⟩ := h
    have hr2 : Room 2 _ := hr.mono (by decide)
    refine ⟨_, pss_cons (ps_expr (pe_has GC hr (by rfl) (pa_cons (pv 0) pa_nil))) (pss_one (ps_if (pt_not (pt_val (pe_has GS hr2 (by rfl) (pa_cons (pv 1) pa_nil)))) (pss_one ps_never) pss_nil)), ?_⟩
    exact ⟨_, rfl, c, ws, rfl, hc, ok, fun H1 s1 => ⟨_, rfl, z, rfl, ha, hz, fun H2 s2 => ⟨_, rfl, iteF (q _ (s1.trans s2))⟩⟩⟩

/-! ### joined, check_parse, string_of -/
theorem scJoined : FnScope ["code", "parse", "number"] ["code", "parse"] (defScope sJoined) := ⟨rfl, rfl, rfl, by decide +kernel, rfl, by decide +kernel, by decide +kernel⟩
def spJoined : Sp := fun vs H Q _ => ∃ (c : Addr) (ws : List Str) (p : Addr) (r : List Nat), vs = [.ref c, .ref p] ∧ CodeAt H c ws ∧ CodeOk ws ∧ NumAt H p r ∧ ValP (cd ws) r ∧ (jn (cd ws) r).length ≤ 24 ∧
  ∀ H' u, Same H H' → cs u = jn (cd ws) r → Q (.str u) H'
theorem has_joined (T : Txt K mg) (D : DefAt K mg "joined" sJoined) : Has P w K mg base CX0 1 "joined" ["code", "parse"] spJoined := by
  obtain ⟨f, fd, g, F⟩ := D
  refine ⟨f, fd, g, F.kp, F.binds (fun _ _ _ _ _ _ us hl => match us, hl with | [_, _], _ => rfl), F.ok scJoined (fun vs H Q E h => ?_) (fun cdv A outer s H vs Q E hr h => ?_)⟩
  · obtain ⟨c, ws, p, r, rfl, _⟩ := h
    rfl
  · obtain ⟨c, ws, p, r, rfl, hc, ok, hp, hv, hl, q⟩ := h
    refine ⟨_, pss_one (ps_ret (pe_join pe_str
          (pe_lc (own := [("number", 2)]) (g := gName 2) (by rfl) scJoined.nd (pi_tup (pv 1)) (blkOk_by (own := [("number", 2)]) (N := ["code", "parse", "number"]) (sc := defScope sJoined) (by decide +kernel))
            (fun _ _ _ _ _ => pg_name (i := 2) scJoined.nd rfl (Or.inl rfl)) (fun _ _ _ _ _ => pts_nil)
            (fun _ _ _ _ _ => pe_ix (r := rIxT K) (by exact ix_tup) (pv 0) (pv 2) (fun _ _ => rfl))))), ?_⟩
    have hm := jn_many ok.pos hv
    refine ⟨⟨_, rfl⟩, _, rfl, p, rfl, ⟨_, .inl (.inl hp)⟩, fun D hD => lc_map (walk_tup (xs := pV r)) (fun i => .str (ws.getD (r.getD i 0) Str.empty)) hD (by rw [List.length_map]; exact Nat.le_of_lt (small1000 (by omega))) (fun H' s1 => .inl (.inl (s1 _ _ hp))) (fun i x H1 H2 R hi s1 y hR => ?_) (fun H1 s1 e1 => ?_)⟩
    · obtain ⟨rfl, hx⟩ := y
      obtain ⟨n, hn, rfl⟩ := pV_at hx
      obtain ⟨u, hu⟩ := val_at hv hn
      refine ⟨_, rfl, _, rfl, c, _, _, _, rfl, rfl, .inl (.inl (hc.same s1)), atI_nat (j := n) (v := .str u) (by rw [List.getElem?_map, hu]; rfl), ?_⟩
      have e : V.str (ws.getD (r.getD i 0) Str.empty) = V.str u := by
        rw [List.getD_eq_getElem?_getD (l := r), hn, List.getD_eq_getElem?_getD]
        show V.str (ws[n]?.getD _) = _
        rw [hu]
        rfl
      rw [← e]
      exact hR _ (Same.refl _)
    · rw [List.length_map, keptL_all (xs := r) (g := fun n => V.str (ws.getD n Str.empty)) (fun i n h => by rw [List.getD_eq_getElem?_getD (l := r), h]; rfl)] at e1
      have e2 : H1 D = some (.lst ((r.map fun n => ws.getD n Str.empty).map V.str)) := by
        rw [List.map_map]
        exact e1
      refine ⟨_, D, _, rfl, rfl, .inl (.inl (.inl e2)), ?_, q _ _ s1 ?_⟩
      · have e3 := jn_lens hv
        rw [List.map_map]
        show (r.map fun n => (ws.getD n Str.empty).length).sum + _ * (Str.ofString "").length ≤ 16777216
        have e4 : (Str.ofString "").length = 0 := by decide +kernel
        rw [e3, e4]
        omega
      · rw [join_cs, jn_flat hv]

theorem scCheckParse : FnScope ["code", "parse", "number"] ["code", "parse"] (defScope sCheckParse) := ⟨rfl, rfl, rfl, by decide +kernel, rfl, by decide +kernel, by decide +kernel⟩
def spCheckParse : Sp := fun vs H Q _ => ∃ (c : Addr) (ws : List Str) (p : Addr) (r : List Nat), vs = [.ref c, .ref p] ∧ CodeAt H c ws ∧ CodeOk ws ∧ NumAt H p r ∧ ValP (cd ws) r ∧ (jn (cd ws) r).length ≤ 24 ∧
  ∀ H', Same H H' → Q .non H'
theorem has_checkParse (T : Txt K mg) (D : DefAt K mg "check_parse" sCheckParse) (GC : Has P w K mg base CX0 3 "check_code" ["code"] spCheckCode) (GP : Has P w K mg base CX0 2 "is_parse" ["code", "value"] spIsParse) :
    Has P w K mg base CX0 4 "check_parse" ["code", "parse"] spCheckParse := by
  obtain ⟨f, fd, g, F⟩ := D
  obtain ⟨t1, h1⟩ := T.ls
  refine ⟨f, fd, g, F.kp, F.binds (fun _ _ _ _ _ _ us hl => match us, hl with | [_, _], _ => rfl), F.ok scCheckParse (fun vs H Q E h => ?_) (fun cdv A outer s H vs Q E hr h => ?_)⟩
  · obtain ⟨c, ws, p, r, rfl, _⟩ := h
    rfl
  · obtain ⟨c, ws, p, r, rfl, hc, ok, hp, hv, hl, q⟩ := h
    have hr2 : Room 2 _ := hr.mono (by decide)
    refine ⟨_, pss_cons (ps_expr (pe_has GC hr (by rfl) (pa_cons (pv 0) pa_nil)))
      (pss_cons (ps_if (pt_not (pt_val (pe_has GP hr2 (by rfl) (pa_cons (pv 0) (pa_cons (pv 1) pa_nil))))) (pss_one ps_never) pss_nil)
      (pss_one (ps_if (pt_cmpR op_gt (pe_callB (cr_sum rfl) (by rfl) T.sum boot_sum (pa_cons
          (pe_lc (own := [("number", 2)]) (g := gName 2) (by rfl) scCheckParse.nd (pi_tup (pv 1)) (blkOk_by (own := [("number", 2)]) (N := ["code", "parse", "number"]) (sc := defScope sCheckParse) (by decide +kernel))
            (fun _ _ _ _ _ => pg_name (i := 2) scCheckParse.nd rfl (Or.inl rfl)) (fun _ _ _ _ _ => pts_nil)
            (fun _ _ _ _ _ => pe_callB call_len_str (by rfl) T.len boot_len (pa_cons (pe_ix (r := rIxT K) (by exact ix_tup) (pv 0) (pv 2) (fun _ _ => rfl)) pa_nil))) pa_nil)) (pe_glob (v := .int 24) rfl h1 ⟨_, rfl⟩) (nomark _)) (pss_one ps_never) pss_nil))), ?_⟩
    have hm := jn_many ok.pos hv
    refine ⟨_, rfl, c, ws, rfl, hc, ok, fun H1 s1 => ?_⟩
    refine ⟨_, rfl, _, rfl, c, ws, p, r, rfl, hc.same s1, ok, hp.same s1, hv, by omega, fun H2 s2 => ⟨_, rfl, iteF ?_⟩⟩
    have hp2 := (hp.same s1).same s2
    have hc2 := (hc.same s1).same s2
    refine ⟨_, rfl, p, rfl, ⟨_, .inl (.inl hp2)⟩, fun D hD => lc_map (walk_tup (xs := pV r)) (fun i => iN (ws.getD (r.getD i 0) Str.empty).length) hD (by rw [List.length_map]; exact Nat.le_of_lt (small1000 (by omega))) (fun H' s1 => .inl (.inl (s1 _ _ hp2))) (fun i x H3 H4 R hi s3 y hR => ?_) (fun H3 s3 e3 => ?_)⟩
    · obtain ⟨rfl, hx⟩ := y
      obtain ⟨n, hn, rfl⟩ := pV_at hx
      obtain ⟨u, hu⟩ := val_at hv hn
      refine ⟨_, rfl, _, rfl, c, _, _, _, rfl, rfl, .inl (.inl (hc2.same s3)), atI_nat (j := n) (v := .str u) (by rw [List.getElem?_map, hu]; rfl), u, rfl, ?_, ?_⟩
      · have := (ok.wd u (List.mem_of_getElem? hu)).2.1
        exact Nat.le_of_lt (small1000 (by omega))
      · have e : iN (ws.getD (r.getD i 0) Str.empty).length = V.int u.length := by
          rw [List.getD_eq_getElem?_getD (l := r), hn, List.getD_eq_getElem?_getD]
          show V.int (ws[n]?.getD _).length = _
          rw [hu]
          rfl
        rw [← e]
        exact hR _ (Same.refl _)
    · rw [List.length_map, keptL_all (xs := r) (g := fun n => iN (ws.getD n Str.empty).length) (fun i n h => by rw [List.getD_eq_getElem?_getD (l := r), h]; rfl)] at e3
      have e4 : H3 D = some (.lst (((r.map fun n => (ws.getD n Str.empty).length).map fun n : Nat => (n : Int)).map V.int)) := by
        rw [List.map_map, List.map_map]
        exact e3
      refine ⟨D, _, rfl, .inl (.inl e4), ?_⟩
      rw [sum_cast, jn_lens hv]
      refine ⟨_, _, rfl, rfl, _, rfl, ?_⟩
      rw [decide_eq_false (by omega : ¬ (24 : Int) < ((jn (cd ws) r).length : Int))]
      exact iteF (q _ ((s1.trans s2).trans s3))

theorem scStringOf : FnScope ["code", "parse"] ["code", "parse"] (defScope sStringOf) := ⟨rfl, rfl, rfl, by decide +kernel, rfl, by decide +kernel, by decide +kernel⟩
theorem has_stringOf (D : DefAt K mg "string_of" sStringOf) (GC : Has P w K mg base CX0 4 "check_parse" ["code", "parse"] spCheckParse) (GJ : Has P w K mg base CX0 1 "joined" ["code", "parse"] spJoined) :
    Has P w K mg base CX0 5 "string_of" ["code", "parse"] spJoined := by
  obtain ⟨f, fd, g, F⟩ := D
  refine ⟨f, fd, g, F.kp, F.binds (fun _ _ _ _ _ _ us hl => match us, hl with | [_, _], _ => rfl), F.ok scStringOf (fun vs H Q E h => ?_) (fun cdv A outer s H vs Q E hr h => ?_)⟩
  · obtain ⟨c, ws, p, r, rfl, _⟩ := h
    rfl
  · obtain ⟨c, ws, p, r, rfl, hc, ok, hp, hv, hl, q⟩ := h
    have hr1 : Room 1 _ := hr.mono (by decide)
    refine ⟨_, pss_cons (ps_expr (pe_has GC hr (by rfl) (pa_cons (pv 0) (pa_cons (pv 1) pa_nil)))) (pss_one (ps_ret (pe_has GJ hr1 (by rfl) (pa_cons (pv 0) (pa_cons (pv 1) pa_nil))))), ?_⟩
    exact ⟨_, rfl, _, rfl, c, ws, p, r, rfl, hc, ok, hp, hv, hl, fun H1 s1 => ⟨_, rfl, _, rfl, c, ws, p, r, rfl, hc.same s1, ok, hp.same s1, hv, hl, fun H2 u s2 e => q _ _ (s1.trans s2) e⟩⟩

/-! ### is_message, count_parses -/
theorem scIsMessage : FnScope ["code", "string"] ["code", "string"] (defScope sIsMessage) := ⟨rfl, rfl, rfl, by decide +kernel, rfl, by decide +kernel, by decide +kernel⟩
def spIsMessage : Sp := fun vs H Q _ => ∃ (c : Addr) (ws : List Str) (z : Str), vs = [.ref c, .str z] ∧ CodeAt H c ws ∧ CodeOk ws ∧ Abc z ∧ z.length ≤ 24 ∧ ∀ H', Same H H' → Q (.bl (decide (0 < cnt (cd ws) (cs z)))) H'
theorem has_isMessage (D : DefAt K mg "is_message" sIsMessage) (GC : Has P w K mg base CX0 4 "check_string" ["code", "string"] spCheckString) (GP : Has P w K mg base CX0 2 "parses_of" ["code", "string"] spParses) :
    Has P w K mg base CX0 5 "is_message" ["code", "string"] spIsMessage := by
  obtain ⟨f, fd, g, F⟩ := D
  refine ⟨f, fd, g, F.kp, F.binds (fun _ _ _ _ _ _ us hl => match us, hl with | [_, _], _ => rfl), F.ok scIsMessage (fun vs H Q E h => ?_) (fun cdv A outer s H vs Q E hr h => ?_)⟩
  · obtain ⟨c, ws, z, rfl, _⟩ := h
    rfl
  · obtain ⟨c, ws, z, rfl, hc, ok, ha, hz, q⟩ := h
    have hr2 : Room 2 _ := hr.mono (by decide)
    refine ⟨_, pss_cons (ps_expr (pe_has GC hr (by rfl) (pa_cons (pv 0) (pa_cons (pv 1) pa_nil)))) (pss_one (ps_ret (pe_cmpR op_gt (pe_has GP hr2 (by rfl) (pa_cons (pv 0) (pa_cons (pv 1) pa_nil))) pe_int (nomark _)))), ?_⟩
    refine ⟨_, rfl, _, rfl, c, ws, z, rfl, hc, ok, ha, hz, fun H1 s1 => ⟨_, rfl, _, rfl, c, ws, z, rfl, hc.same s1, ok, by omega, fun H2 s2 => ⟨_, _, rfl, rfl, ?_⟩⟩⟩
    have e : decide ((0 : Int) < ((cnt (cd ws) (cs z) : Nat) : Int)) = decide (0 < cnt (cd ws) (cs z)) := decide_eq_decide.mpr (by omega)
    show Q (.bl (decide ((0 : Int) < ((cnt (cd ws) (cs z) : Nat) : Int)))) H2
    rw [e]
    exact q _ (s1.trans s2)
theorem scCount : FnScope ["code", "string"] ["code", "string"] (defScope sCount) := ⟨rfl, rfl, rfl, by decide +kernel, rfl, by decide +kernel, by decide +kernel⟩
def spCount : Sp := fun vs H Q _ => ∃ (c : Addr) (ws : List Str) (z : Str), vs = [.ref c, .str z] ∧ CodeAt H c ws ∧ CodeOk ws ∧ Abc z ∧ z.length ≤ 24 ∧ ∀ H', Same H H' → Q (iN (cnt (cd ws) (cs z))) H'
theorem has_count (D : DefAt K mg "count_parses" sCount) (GC : Has P w K mg base CX0 4 "check_string" ["code", "string"] spCheckString) (GP : Has P w K mg base CX0 2 "parses_of" ["code", "string"] spParses) :
    Has P w K mg base CX0 5 "count_parses" ["code", "string"] spCount := by
  obtain ⟨f, fd, g, F⟩ := D
  refine ⟨f, fd, g, F.kp, F.binds (fun _ _ _ _ _ _ us hl => match us, hl with | [_, _], _ => rfl), F.ok scCount (fun vs H Q E h => ?_) (fun cdv A outer s H vs Q E hr h => ?_)⟩
  · obtain ⟨c, ws, z, rfl, _⟩ := h
    rfl
  · obtain ⟨c, ws, z, rfl, hc, ok, ha, hz, q⟩ := h
    have hr2 : Room 2 _ := hr.mono (by decide)
    refine ⟨_, pss_cons (ps_expr (pe_has GC hr (by rfl) (pa_cons (pv 0) (pa_cons (pv 1) pa_nil)))) (pss_one (ps_ret (pe_has GP hr2 (by rfl) (pa_cons (pv 0) (pa_cons (pv 1) pa_nil))))), ?_⟩
    exact ⟨_, rfl, _, rfl, c, ws, z, rfl, hc, ok, ha, hz, fun H1 s1 => ⟨_, rfl, _, rfl, c, ws, z, rfl, hc.same s1, ok, by omega, fun H2 s2 => q _ (s1.trans s2)⟩⟩
end
end K02
/-! nth_parse -/
namespace K02
open PySem PySem.Spec PyProof.Rows L2
/-- for i, x in enumerate(t), t a tuple -/
theorem for_en {K : PySem.W.Frag} {a : Addr} {xs : List V} {i1 i2 n : Nat} {tb : TS} {D : Ends} {σ : L2.St} {H : Hp} (hn : 2 = n) (Pv : Nat → L2.St → Hp → Prop) (h0 : Pv 0 σ H) (hA : ∀ i σ H, i ≤ xs.length → Pv i σ H → H a = some (.tup xs))
    (hs : ∀ (i : Nat) (x : V) (σ : L2.St) (H H' : Hp), xs[i]? = some x → Pv i σ H → Same H H' → tb { D with nx := Pv (i + 1), ct := Pv (i + 1), bk := D.nx } ((σ.set i1 (some (iN i))).set i2 (some x)) H') (hd : ∀ σ H, Pv xs.length σ H → D.nx σ H) :
    ∃ W : Nat → Nat → L2.St → Hp → Prop, (∃ m, W 0 m σ H) ∧ ∀ i m σ H, W i m σ H →
      ((ItEn K a).stop i H ∧ D.nx σ H) ∨ ((ItEn K a).go i H ∧ ∃ N : L2.St → Hp → Prop, (∀ σ' H', N σ' H' → ∃ m', m' < m ∧ W (i + 1) m' σ' H') ∧ ∀ x H', (ItEn K a).yld i H x H' → gTup K n (gCons (gName i1) (gCons (gName i2) gNil)) x σ H' fun σ2 H2 => tb { D with nx := N, ct := N, bk := D.nx } σ2 H2) := by
  refine for_it (walk_en (xs := xs)) Pv h0 (fun i σ H hi p => .inl (.inl (hA i σ H hi p))) (fun i x σ H H' hi p y => ?_) hd
  obtain ⟨T, z, u, rfl, hT, rfl, ez, eu⟩ := y
  obtain rfl := Option.some.inj ez
  exact ⟨T, _, rfl, .inl (.inl upd_same), hn, _, _, rfl, _, _, rfl, rfl, hs i u σ H _ eu p (same_new hT)⟩
theorem str_at {ws : List Str} {i : Nat} {x : V} (h : (ws.map V.str)[i]? = some x) : ∃ u, ws[i]? = some u ∧ x = .str u := by
  rw [List.getElem?_map] at h
  cases e : ws[i]? with
  | none =>
    rw [e] at h
    cases h
  | some u =>
    rw [e] at h
    exact ⟨u, rfl, (Option.some.inj h).symm⟩
section
variable {P : Program} {w : World} {K : PySem.W.Frag} {mg : Str → Option Value} {base : Heap}
abbrev nNth : List Str := ["code", "string", "index", "ways", "left", "at", "found", "number", "word"]
theorem scNth : FnScope nNth ["code", "string", "index"] (defScope sNth) := ⟨rfl, rfl, rfl, by decide +kernel, rfl, by decide +kernel, by decide +kernel⟩
def spNth (CB : Addr) : Sp := fun vs H Q E => ∃ (c : Addr) (ws : List Str) (z : Str) (k : Int), vs = [.ref c, .str z, .int k] ∧ CodeAt H c ws ∧ CodeOk ws ∧ Abc z ∧ z.length ≤ 24 ∧
  (∀ (i : Nat) (r : List Nat), k = (i : Int) → (ps (cd ws) (cs z))[i]? = some r → ∀ H' p, Same H H' → NumAt H' p r → Q (.ref p) H') ∧
  (¬ (0 ≤ k ∧ k < ((cnt (cd ws) (cs z) : Nat) : Int)) → ∀ H' d, Same H H' → H' d = some (.xd [(("name" : Str), .str "index")]) → E (.ref CB) (some d) H')
theorem has_nth {CB fI : Addr} (T : Txt K mg) (TB : PySem.BadVX.BadVTxt K mg CB fI) (D : DefAt K mg "nth_parse" sNth) (GC : Has P w K mg base CX0 4 "check_string" ["code", "string"] spCheckString) (GW : Has P w K mg base CX0 1 "ways_from" ["code", "string"] spWays)
    (GH : Has P w K mg base CX0 1 "is_whole" ["value", "low", "high"] spWhole) : Has P w K mg base (L2.CX P w) 5 "nth_parse" ["code", "string", "index"] (spNth CB) := by
  obtain ⟨f, fd, g, F⟩ := D
  refine ⟨f, fd, g, F.kp, F.binds (fun _ _ _ _ _ _ us hl => match us, hl with | [_, _, _], _ => rfl), F.okX scNth (fun vs H Q E h => ?_) (fun cdv A outer s H vs Q E hr h => ?_)⟩
  · obtain ⟨c, ws, z, k, rfl, _⟩ := h
    rfl
  · obtain ⟨c, ws, z, k, rfl, hc, ok, ha, hz, qS, qE⟩ := h
    have hr1 : Room 1 _ := hr.mono (by decide)
    refine ⟨_, pss_cons (ps_expr (pe_has GC hr (by rfl) (pa_cons (pv 0) (pa_cons (pv 1) pa_nil))))
      (pss_cons (ps_set (i := 3) scNth.nd rfl (Or.inl rfl) (pe_has GW hr1 (by rfl) (pa_cons (pv 0) (pa_cons (pv 1) pa_nil))))
      (pss_cons (ps_if (pt_not (pt_val (pe_has GH hr1 (by rfl) (pa_cons (pv 2) (pa_cons pe_int (pa_cons (pe_op op_sub (pe_ix ix_list (pv 3) pe_int (fun _ _ => rfl)) pe_int) pa_nil))))))
          (pss_one (ps_raiseBadV (W := fun cls d _ H => E cls d H) rfl TB hr (takes_of rfl rfl rfl rfl) (by exact (pa_cons pe_str pa_nil)))) pss_nil)
      (PSs.nox (pss_cons (ps_set (i := 4) scNth.nd rfl (Or.inl rfl) (pv 2))
      (pss_cons (ps_set (i := 5) scNth.nd rfl (Or.inl rfl) pe_int)
      (pss_cons (ps_set (i := 6) scNth.nd rfl (Or.inl rfl) (pe_tup pa_nil))
      (pss_cons (ps_while PassesOwn.never (pt_cmpR op_lt (pv 5) (pe_callB call_len_str (by rfl) T.len boot_len (pa_cons (pv 1) pa_nil)) (nomark _))
        (pss_one (ps_for PassesOwn.never rfl (pi_en (by rfl) T.enu (pa_cons (pv 0) pa_nil)) (pg_tup (by rfl) (pgs_cons (pg_name (i := 7) scNth.nd rfl (Or.inl rfl)) (pgs_cons (pg_name (i := 8) scNth.nd rfl (Or.inl rfl)) pgs_nil)))
          (pss_one (ps_if (pt_cmpR op_eq (pe_slice sl_str (pv 1) (po_some (pv 5)) (po_some (pe_op op_add (pv 5) (pe_callB call_len_str (by rfl) T.len boot_len (pa_cons (pv 8) pa_nil))))) (pv 8) (nomark _))
            (pss_cons (ps_if (pt_cmpR op_lt (pv 4) (pe_ix ix_list (pv 3) (pe_op op_add (pv 5) (pe_callB call_len_str (by rfl) T.len boot_len (pa_cons (pv 8) pa_nil))) (fun _ _ => rfl)) (nomark _))
              (pss_cons (ps_set (i := 6) scNth.nd rfl (Or.inl rfl) (pe_op op_catA (pv 6) (pe_tup (pa_cons (pv 7) pa_nil))))
              (pss_cons (ps_set (i := 5) scNth.nd rfl (Or.inl rfl) (pe_op op_add (pv 5) (pe_callB call_len_str (by rfl) T.len boot_len (pa_cons (pv 8) pa_nil))))
              (pss_one ps_break))) pss_nil)
            (pss_one (ps_set (i := 4) scNth.nd rfl (Or.inl rfl) (pe_op op_sub (pv 4) (pe_ix ix_list (pv 3) (pe_op op_add (pv 5) (pe_callB call_len_str (by rfl) T.len boot_len (pa_cons (pv 8) pa_nil))) (fun _ _ => rfl))))))
            pss_nil)))))
      (pss_one (ps_ret (pv 6)))))))))), ?_⟩
    have hC := ok.pos
    have zl : z.length ≤ sizeLine := Nat.le_of_lt (small1000 (by omega))
    have lw : ws.length ≤ sizeLine := Nat.le_of_lt (small1000 (Nat.le_trans ok.len (by decide)))
    refine ⟨_, rfl, _, rfl, c, ws, z, rfl, hc, ok, ha, hz, fun H1 s1 => ?_⟩
    refine ⟨_, rfl, _, rfl, c, ws, z, rfl, hc.same s1, ok, by omega, fun H2 pw s2 npw epw => ?_⟩
    have s02 := s1.trans s2
    refine ⟨_, rfl, _, rfl, pw, _, 0, _, rfl, rfl, .inl (.inl epw), at_of (j := 0) (v := iN (cnt (cd ws) (cs z))) rfl (by rw [List.getElem?_map, waysL_get _ _ (Nat.zero_le _)]; rfl), _, _, rfl, rfl, k, 0, _, rfl, ?_⟩
    refine ⟨_, rfl, ?_⟩
    by_cases hk : 0 ≤ k ∧ k < ((cnt (cd ws) (cs z) : Nat) : Int)
    · rw [decide_eq_true (by omega : 0 ≤ k ∧ k ≤ ((cnt (cd ws) (cs z) : Nat) : Int) - 1)]
      refine iteF ?_
      obtain ⟨i0, rfl⟩ : ∃ i : Nat, k = (i : Int) := ⟨k.toNat, by omega⟩
      have hlt : i0 < (ps (cd ws) (cs z)).length := by
        have e : (ps (cd ws) (cs z)).length = cnt (cd ws) (cs z) := rfl
        omega
      obtain ⟨r, hr0⟩ : ∃ r, (ps (cd ws) (cs z))[i0]? = some r := ⟨_, List.getElem?_eq_getElem hlt⟩
      have q0 := qS i0 r rfl hr0
      clear qS qE
      refine ⟨_, rfl, (by decide : 0 ≤ sizeLine), fun pf nf => ?_⟩
      refine ⟨fun m σ H' => ∃ (left a : Nat) (pf : Addr) (done q : List Nat) (y7 y8 : Option V), σ = [some (.ref c), some (.str z), some (.int (i0 : Int)), some (.ref pw), some (iN left), some (iN a), some (.ref pf), y7, y8] ∧
        m = z.length - a ∧ a ≤ z.length ∧ Same H H' ∧ H' pw = some (.lst ((waysL (cd ws) (cs z)).map iN)) ∧ NumAt H' pf done ∧ done ++ q = r ∧ (ps (cd ws) ((cs z).drop a))[left]? = some q,
        ⟨_, i0, 0, pf, [], r, none, none, rfl, rfl, Nat.zero_le _, s02.trans (same_new nf), same_new nf _ _ epw, upd_same, rfl, hr0⟩, ?_⟩
      rintro m σ H3 ⟨left, a, pf, done, q, y7, y8, rfl, rfl, hal, s3, e3, hf, hdq, hq⟩
      refine ⟨_, rfl, _, rfl, z, rfl, zl, _, _, rfl, rfl, _, rfl, ?_⟩
      by_cases hlz : a < z.length
      · rw [decide_eq_true (by omega : (a : Int) < (z.length : Int))]
        have hc3 := hc.same s3
        have t0 : (cs z).drop a ≠ [] := fun e => by
          have q := congrArg List.length e
          rw [List.length_drop, cs_len, List.length_nil] at q
          omega
        refine iteT ⟨fun σ' H' => ∃ m', m' < z.length - a ∧ ∃ (left a : Nat) (pf : Addr) (done q : List Nat) (y7 y8 : Option V), σ' = [some (.ref c), some (.str z), some (.int (i0 : Int)), some (.ref pw), some (iN left), some (iN a), some (.ref pf), y7, y8] ∧
          m' = z.length - a ∧ a ≤ z.length ∧ Same H H' ∧ H' pw = some (.lst ((waysL (cd ws) (cs z)).map iN)) ∧ NumAt H' pf done ∧ done ++ q = r ∧ (ps (cd ws) ((cs z).drop a))[left]? = some q, fun σ' H' h => h, ?_⟩
        refine ⟨_, rfl, c, _, rfl, .inl (.inl hc3), for_en rfl
          (fun i σ H4 => ∃ (left : Nat) (y7 y8 : Option V), σ = [some (.ref c), some (.str z), some (.int (i0 : Int)), some (.ref pw), some (iN left), some (iN a), some (.ref pf), y7, y8] ∧ Same H3 H4 ∧ (restP (cd ws) ((cs z).drop a) i)[left]? = some q)
          ⟨left, y7, y8, rfl, Same.refl _, by rw [rest_zero hC t0]; exact hq⟩ (fun i σ H4 _ h => by obtain ⟨_, _, _, _, s4, _⟩ := h; exact hc3.same s4) (fun i x σ H4 H5 hx hP s45 => ?_) (fun σ H4 hP => ?_)⟩
        · obtain ⟨left, y7, y8, rfl, s4, hq4⟩ := hP
          obtain ⟨u, hu, rfl⟩ := str_at hx
          obtain ⟨w1, w2, w3⟩ := ok.wd u (List.mem_of_getElem? hu)
          have ul : u.length ≤ sizeLine := Nat.le_of_lt (small1000 (by omega))
          have hu' := cd_get hu
          have s5 := s4.trans s45
          have key : decide (V.str (cutS z (some (a : Int)) (some ((a : Int) + (u.length : Nat)))) = V.str u) = decide (((cs z).drop a).take (cs u).length = cs u) := by
            rw [str_eq_iff, cut_word z a u.length (by omega), cs_len]
          refine ⟨_, rfl, _, rfl, _, rfl, _, rfl, _, rfl, u, rfl, ul, _, _, rfl, rfl, _, rfl, z, rfl, zl, _, rfl, rfl, _, rfl, ?_⟩
          rw [key]
          by_cases m : ((cs z).drop a).take (cs u).length = cs u
          · rw [decide_eq_true m]
            have hle := take_len m
            rw [List.length_drop, cs_len, cs_len] at hle
            have ew : ((waysL (cd ws) (cs z)).map iN)[a + u.length]? = some (iN (cnt (cd ws) (((cs z).drop a).drop (cs u).length))) := by
              rw [List.getElem?_map, waysL_get _ _ (by rw [cs_len]; omega), List.drop_drop, cs_len]
              rfl
            refine iteT ⟨_, rfl, _, rfl, _, rfl, _, rfl, u, rfl, ul, _, _, rfl, rfl, pw, _, _, _, rfl, rfl, .inl (.inl (s5 _ _ e3)), at_of (j := a + u.length) (by omega) ew, _, _, rfl, rfl, _, rfl, ?_⟩
            by_cases hl : left < cnt (cd ws) (((cs z).drop a).drop (cs u).length)
            · rw [decide_eq_true (by omega : (left : Int) < ((cnt (cd ws) (((cs z).drop a).drop (cs u).length) : Nat) : Int))]
              obtain ⟨q', rfl, hq'⟩ := nth_here hu' m hq4 hl
              have fin : ∀ pr Hr, Same H5 Hr → NumAt Hr pr (done ++ [i]) → ∃ m', m' < z.length - a ∧ ∃ (left' a' : Nat) (pf' : Addr) (done' q2 : List Nat) (y7 y8 : Option V),
                  [some (V.ref c), some (.str z), some (.int (i0 : Int)), some (.ref pw), some (iN left), some (.int ((a : Int) + (u.length : Int))), some (.ref pr), some (iN i), some (.str u)] = [some (.ref c), some (.str z), some (.int (i0 : Int)), some (.ref pw), some (iN left'), some (iN a'), some (.ref pf'), y7, y8] ∧
                  m' = z.length - a' ∧ a' ≤ z.length ∧ Same H Hr ∧ Hr pw = some (.lst ((waysL (cd ws) (cs z)).map iN)) ∧ NumAt Hr pf' done' ∧ done' ++ q2 = r ∧ (ps (cd ws) ((cs z).drop a'))[left']? = some q2 := fun pr Hr sr nr => by
                refine ⟨z.length - (a + u.length), by omega, left, a + u.length, pr, done ++ [i], q', some (iN i), some (.str u), rfl, rfl, by omega, (s3.trans s5).trans sr, (s5.trans sr) _ _ e3, nr, ?_, ?_⟩
                · rw [List.append_assoc]
                  exact hdq
                · rw [List.drop_drop, cs_len] at hq'
                  exact hq'
              refine iteT ⟨_, rfl, _, rfl, (by decide : 1 ≤ sizeLine), fun p1 n1 => ?_⟩
              have hf5 : NumAt H5 pf done := hf.same s5
              have hle2 : done.length ≤ 24 := by
                have hm := (mem_ps hC r (cs z)).mp (List.mem_of_getElem? hr0)
                have h1 := jn_many hC hm.1
                rw [hm.2, cs_len, ← hdq, List.length_append] at h1
                omega
              refine ⟨pf, p1, _, _, rfl, rfl, .inl (.inl (same_new n1 _ _ hf5)), .inl (.inl upd_same), ?_, fun hn => ?_, fun _ hn => ?_, fun _ _ p2 n2 => ?_⟩
              · rw [List.length_map]
                exact Nat.le_of_lt (small1000 (by show done.length + 1 ≤ 1000; omega))
              · have hd0 : done = [] := List.map_eq_nil_iff.mp hn
                refine ⟨_, rfl, _, rfl, u, rfl, ul, _, _, rfl, rfl, fin p1 _ (same_new n1) ?_⟩
                rw [hd0]
                exact upd_same
              · cases hn
              · refine ⟨_, rfl, _, rfl, u, rfl, ul, _, _, rfl, rfl, fin p2 _ ((same_new n1).trans (same_new n2)) ?_⟩
                have e : pV (done ++ [i]) = pV done ++ [iN i] := List.map_append
                unfold NumAt
                rw [upd_same, e]
            · rw [decide_eq_false (by omega : ¬ (left : Int) < ((cnt (cd ws) (((cs z).drop a).drop (cs u).length) : Nat) : Int))]
              refine iteF ⟨_, rfl, _, rfl, _, rfl, _, rfl, u, rfl, ul, _, _, rfl, rfl, pw, _, _, _, rfl, rfl, .inl (.inl (s5 _ _ e3)), at_of (j := a + u.length) (by omega) ew, _, _, rfl, rfl, ?_⟩
              refine ⟨left - cnt (cd ws) (((cs z).drop a).drop (cs u).length), some (iN i), some (.str u), ?_, s5, nth_past hu' m hq4 (by omega)⟩
              have e : (left : Int) - ((cnt (cd ws) (((cs z).drop a).drop (cs u).length) : Nat) : Int) = ((left - cnt (cd ws) (((cs z).drop a).drop (cs u).length) : Nat) : Int) := by omega
              show [_, _, _, _, some (V.int ((left : Int) - ((cnt (cd ws) (((cs z).drop a).drop (cs u).length) : Nat) : Int))), _, _, _, _] = _
              rw [e]
          · rw [decide_eq_false m]
            exact iteF ⟨left, _, _, rfl, s5, nth_no hu' m hq4⟩
        · obtain ⟨left, y7, y8, rfl, s4, hq4⟩ := hP
          rw [rest_end (by rw [List.length_map, List.length_map]; exact Nat.le_refl _)] at hq4
          cases hq4
      · rw [decide_eq_false (by omega : ¬ (a : Int) < (z.length : Int))]
        have ea : a = z.length := by omega
        rw [List.drop_of_length_le (by rw [cs_len]; omega), ps_nil] at hq
        have hq2 : q = [] := by
          cases left with
          | zero => exact (Option.some.inj hq).symm
          | succ n => cases hq
        rw [hq2, List.append_nil] at hdq
        refine iteF ⟨_, rfl, q0 _ _ s3 ?_⟩
        rw [← hdq]
        exact hf
    · rw [decide_eq_false (by omega : ¬ (0 ≤ k ∧ k ≤ ((cnt (cd ws) (cs z) : Nat) : Int) - 1))]
      refine iteT ?_
      exact ⟨_, rfl, fun d nd => qE hk _ d (s02.trans (same_new nd)) upd_same⟩
end
end K02
/-! index_of_parse, read_at, boundaries, common_boundaries -/
namespace K02
open PySem PySem.Spec PyProof.Rows L2
theorem cut_head (z : Str) (a : Nat) (h : a ≤ z.length) : cs (cutS z none (some (a : Int))) = (cs z).take a := by
  unfold cutS
  rw [HT.sIx_none, HT.sIx_nat, Nat.min_eq_left h]
  rfl
theorem cut_tail (z : Str) (a : Nat) (h : a ≤ z.length) : cs (cutS z (some (a : Int)) none) = (cs z).drop a := by
  unfold cutS
  rw [HT.sIx_none, HT.sIx_nat, Nat.min_eq_left h]
  show ((cs z).drop a).take (z.length - a) = _
  exact List.take_of_length_le (by rw [List.length_drop, cs_len]; exact Nat.le_refl _)
/-- how many parses have a boundary at each place -/
def readL (C : List Wd) (t : Wd) : List Nat := (List.range (t.length + 1)).map fun a => cnt C (t.take a) * cnt C (t.drop a)
def someP (C : List Wd) (t : Wd) : List Nat := (List.range (t.length + 1)).filter fun a => decide (0 < cnt C (t.take a) * cnt C (t.drop a))
def allP (C : List Wd) (t : Wd) : List Nat := (List.range (t.length + 1)).filter fun a => decide (cnt C (t.take a) * cnt C (t.drop a) = cnt C t)
theorem CodeOk.cnt_lt {ws : List Str} (ok : CodeOk ws) {t : Wd} (h : t.length ≤ 24) : cnt (cd ws) t < 2 ^ 64 := by
  have q := cnt_le ok.pos (b := 5) (by rw [List.length_map]; exact ok.len) (by decide) 24 t h
  exact Nat.lt_of_le_of_lt q (by decide)
section
variable {P : Program} {w : World} {K : PySem.W.Frag} {mg : Str → Option Value} {base : Heap}
abbrev nIndex : List Str := ["code", "parse", "string", "ways", "index", "at", "number", "word"]
theorem scIndex : FnScope nIndex ["code", "parse"] (defScope sIndex) := ⟨rfl, rfl, rfl, by decide +kernel, rfl, by decide +kernel, by decide +kernel⟩
def spIndex : Sp := fun vs H Q _ => ∃ (c : Addr) (ws : List Str) (p : Addr) (r : List Nat), vs = [.ref c, .ref p] ∧ CodeAt H c ws ∧ CodeOk ws ∧ NumAt H p r ∧ ValP (cd ws) r ∧ (jn (cd ws) r).length ≤ 24 ∧
  ∀ H', Same H H' → Q (iN (rank (cd ws) (jn (cd ws) r) r)) H'
theorem has_index (T : Txt K mg) (D : DefAt K mg "index_of_parse" sIndex) (GC : Has P w K mg base CX0 4 "check_parse" ["code", "parse"] spCheckParse) (GJ : Has P w K mg base CX0 1 "joined" ["code", "parse"] spJoined)
    (GW : Has P w K mg base CX0 1 "ways_from" ["code", "string"] spWays) : Has P w K mg base CX0 5 "index_of_parse" ["code", "parse"] spIndex := by
  obtain ⟨f, fd, g, F⟩ := D
  refine ⟨f, fd, g, F.kp, F.binds (fun _ _ _ _ _ _ us hl => match us, hl with | [_, _], _ => rfl), F.ok scIndex (fun vs H Q E h => ?_) (fun cdv A outer s H vs Q E hr h => ?_)⟩
  · obtain ⟨c, ws, p, r, rfl, _⟩ := h
    rfl
  · obtain ⟨c, ws, p, r, rfl, hc, ok, hp, hv, hl, q⟩ := h
    have hr1 : Room 1 _ := hr.mono (by decide)
    refine ⟨_, pss_cons (ps_expr (pe_has GC hr (by rfl) (pa_cons (pv 0) (pa_cons (pv 1) pa_nil))))
      (pss_cons (ps_set (i := 2) scIndex.nd rfl (Or.inl rfl) (pe_has GJ hr1 (by rfl) (pa_cons (pv 0) (pa_cons (pv 1) pa_nil))))
      (pss_cons (ps_set (i := 3) scIndex.nd rfl (Or.inl rfl) (pe_has GW hr1 (by rfl) (pa_cons (pv 0) (pa_cons (pv 2) pa_nil))))
      (pss_cons (ps_set (i := 4) scIndex.nd rfl (Or.inl rfl) pe_int)
      (pss_cons (ps_set (i := 5) scIndex.nd rfl (Or.inl rfl) pe_int)
      (pss_cons (ps_for PassesOwn.never rfl (pi_tup (pv 1)) (pg_name (i := 6) scIndex.nd rfl (Or.inl rfl))
        (pss_cons (ps_for PassesOwn.never rfl (pi_tup (pe_slice sl_tup (pv 0) po_none (po_some (pv 6)))) (pg_name (i := 7) scIndex.nd rfl (Or.inl rfl))
          (pss_one (ps_if (pt_cmpR op_eq (pe_slice sl_str (pv 2) (po_some (pv 5)) (po_some (pe_op op_add (pv 5) (pe_callB call_len_str (by rfl) T.len boot_len (pa_cons (pv 7) pa_nil))))) (pv 7) (nomark _))
            (pss_one (ps_set (i := 4) scIndex.nd rfl (Or.inl rfl) (pe_op op_add (pv 4) (pe_ix ix_list (pv 3) (pe_op op_add (pv 5) (pe_callB call_len_str (by rfl) T.len boot_len (pa_cons (pv 7) pa_nil))) (fun _ _ => rfl)))))
            pss_nil)))
        (pss_one (ps_set (i := 5) scIndex.nd rfl (Or.inl rfl) (pe_op op_add (pv 5) (pe_callB call_len_str (by rfl) T.len boot_len (pa_cons (pe_ix ix_tup (pv 0) (pv 6) (fun _ _ => rfl)) pa_nil)))))))
      (pss_one (ps_ret (pv 4)))))))), ?_⟩
    have hC := ok.pos
    have hm := jn_many hC hv
    have lw : ws.length ≤ sizeLine := Nat.le_of_lt (small1000 (Nat.le_trans ok.len (by decide)))
    refine ⟨_, rfl, _, rfl, c, ws, p, r, rfl, hc, ok, hp, hv, hl, fun H1 s1 => ?_⟩
    refine ⟨_, rfl, _, rfl, c, ws, p, r, rfl, hc.same s1, ok, hp.same s1, hv, hl, fun H2 z s2 ez => ?_⟩
    have hz : z.length ≤ 24 := by
      rw [← cs_len, ez]
      exact hl
    have zl : z.length ≤ sizeLine := Nat.le_of_lt (small1000 (by omega))
    have s02 := s1.trans s2
    refine ⟨_, rfl, _, rfl, c, ws, z, rfl, hc.same s02, ok, by omega, fun H3 pw s3 npw epw => ?_⟩
    have s03 := s02.trans s3
    have hp3 := hp.same s03
    rw [← ez] at q
    refine ⟨_, rfl, p, rfl, ⟨_, .inl (.inl hp3)⟩, for_it (walk_tup (xs := pV r))
      (fun i σ H' => ∃ (idx a : Nat) (y6 y7 : Option V), σ = [some (.ref c), some (.ref p), some (.str z), some (.ref pw), some (iN idx), some (iN a), y6, y7] ∧ Same H3 H' ∧ a ≤ z.length ∧
        idx + rank (cd ws) ((cs z).drop a) (r.drop i) = rank (cd ws) (cs z) r ∧ (cs z).drop a = jn (cd ws) (r.drop i))
      ⟨0, 0, none, none, rfl, Same.refl _, Nat.zero_le _, Nat.zero_add _, ez⟩ (fun i σ H' _ h => by obtain ⟨_, _, _, _, _, s4, _⟩ := h; exact .inl (.inl (hp3.same s4))) (fun i x σ H4 H5 hi hP hY => ?_) (fun σ H4 hP => ?_)⟩
    · obtain ⟨idx, a, y6, y7, rfl, s4, hal, hrk, hj⟩ := hP
      obtain ⟨rfl, hx⟩ := hY
      obtain ⟨n, hn, rfl⟩ := pV_at hx
      obtain ⟨v, hv0⟩ := val_at hv hn
      have hnl : n < ws.length := (List.getElem?_eq_some_iff.mp hv0).1
      have hc4 := (hc.same s03).same s4
      have hir : i < r.length := (List.getElem?_eq_some_iff.mp hn).1
      have hd : r.drop i = n :: r.drop (i + 1) := by
        rw [List.drop_eq_getElem_cons hir]
        congr 1
        rw [List.getElem?_eq_getElem hir] at hn
        exact Option.some.inj hn
      rw [hd] at hrk hj
      rw [jn_cons, getD_of (cd_get hv0)] at hj
      have hvl : v.length ≤ 3 := (ok.wd v (List.mem_of_getElem? hv0)).2.1
      have hlen : z.length - a = v.length + (jn (cd ws) (r.drop (i + 1))).length := by
        have e := congrArg List.length hj
        rw [List.length_drop, cs_len, List.length_append, cs_len] at e
        exact e
      refine ⟨_, rfl, _, rfl, _, rfl, c, _, rfl, .inl (.inl hc4), ?_, fun p1 n1 => ?_⟩
      · rw [HT.sIx_none, HT.sIx_nat, List.length_map]
        omega
      rw [cut_to]
      have s5 : Same H5 (upd H5 p1 (.tup ((ws.map V.str).take n))) := same_new n1
      refine ⟨p1, rfl, ⟨_, .inl (.inl upd_same)⟩, for_it (walk_tup (xs := (ws.map V.str).take n))
        (fun j σ H' => ∃ (y7 : Option V), σ = [some (.ref c), some (.ref p), some (.str z), some (.ref pw), some (iN (idx + ahead (cd ws) ((cs z).drop a) j)), some (iN a), some (iN n), y7] ∧ Same (upd H5 p1 (.tup ((ws.map V.str).take n))) H')
        ⟨y7, by rw [ahead_zero]; rfl, Same.refl _⟩ (fun j σ H' _ h => by obtain ⟨_, _, s6⟩ := h; exact .inl (.inl (s6 _ _ upd_same))) (fun j x σ H6 H7 hj1 hP hY => ?_) (fun σ H6 hP => ?_)⟩
      · obtain ⟨y7, rfl, s6⟩ := hP
        obtain ⟨rfl, hx⟩ := hY
        rw [List.length_take, List.length_map] at hj1
        rw [List.getElem?_take_of_lt (by omega)] at hx
        obtain ⟨u, hu, rfl⟩ := str_at hx
        obtain ⟨w1, w2, w3⟩ := ok.wd u (List.mem_of_getElem? hu)
        have ul : u.length ≤ sizeLine := Nat.le_of_lt (small1000 (by omega))
        have key : decide (V.str (cutS z (some (a : Int)) (some ((a : Int) + (u.length : Nat)))) = V.str u) = decide (((cs z).drop a).take (cs u).length = cs u) := by
          rw [str_eq_iff, cut_word z a u.length hal, cs_len]
        refine ⟨_, rfl, _, rfl, _, rfl, _, rfl, _, rfl, u, rfl, ul, _, _, rfl, rfl, _, rfl, z, rfl, zl, _, rfl, rfl, _, rfl, ?_⟩
        rw [key]
        have hs := ahead_succ (C := cd ws) (t := (cs z).drop a) (cd_get hu)
        by_cases m : ((cs z).drop a).take (cs u).length = cs u
        · rw [decide_eq_true m]
          have hle := take_len m
          rw [List.length_drop, cs_len, cs_len] at hle
          have ew : ((waysL (cd ws) (cs z)).map iN)[a + u.length]? = some (iN (wcnt (cd ws) ((cs z).drop a) (cs u))) := by
            unfold wcnt
            rw [if_pos m, List.getElem?_map, waysL_get _ _ (by rw [cs_len]; omega), List.drop_drop, cs_len]
            rfl
          refine iteT ⟨_, rfl, _, rfl, _, rfl, _, rfl, u, rfl, ul, _, _, rfl, rfl, pw, _, _, _, rfl, rfl, .inl (.inl ((s4.trans (s5.trans s6)) _ _ epw)), at_of (j := a + u.length) (by omega) ew, _, _, rfl, rfl, some (.str u), ?_, s6⟩
          rw [hs]
          have e : ((idx + ahead (cd ws) ((cs z).drop a) j : Nat) : Int) + ((wcnt (cd ws) ((cs z).drop a) (cs u) : Nat) : Int) = ((idx + (ahead (cd ws) ((cs z).drop a) j + wcnt (cd ws) ((cs z).drop a) (cs u)) : Nat) : Int) := by omega
          show [_, _, _, _, some (V.int (((idx + ahead (cd ws) ((cs z).drop a) j : Nat) : Int) + ((wcnt (cd ws) ((cs z).drop a) (cs u) : Nat) : Int))), _, _, _] = _
          rw [e]
        · rw [decide_eq_false m]
          have e0 : wcnt (cd ws) ((cs z).drop a) (cs u) = 0 := if_neg m
          refine iteF ⟨some (.str u), ?_, s6⟩
          rw [hs, e0]
          rfl
      · obtain ⟨y7, rfl, s6⟩ := hP
        rw [List.length_take, List.length_map, Nat.min_eq_left (Nat.le_of_lt hnl)]
        have hc6 := hc4.same (s5.trans s6)
        refine ⟨_, rfl, _, rfl, _, rfl, c, _, _, _, rfl, rfl, .inl (.inl hc6), atI_nat (j := n) (v := .str v) (by rw [List.getElem?_map, hv0]; rfl), v, rfl, Nat.le_of_lt (small1000 (by omega)), _, _, rfl, rfl, ?_⟩
        refine ⟨idx + ahead (cd ws) ((cs z).drop a) n, a + v.length, some (iN n), y7, rfl, s4.trans (s5.trans s6), by omega, ?_, ?_⟩
        · have e : rank (cd ws) ((cs z).drop a) (n :: r.drop (i + 1)) = ahead (cd ws) ((cs z).drop a) n + rank (cd ws) (((cs z).drop a).drop ((cd ws).getD n []).length) (r.drop (i + 1)) := rfl
          rw [e, getD_of (cd_get hv0), List.drop_drop, cs_len] at hrk
          omega
        · have e : (cs z).drop (a + v.length) = ((cs z).drop a).drop v.length := by rw [List.drop_drop]
          rw [e, hj, List.drop_left']
          exact cs_len v
    · obtain ⟨idx, a, y6, y7, rfl, s4, hal, hrk, hj⟩ := hP
      rw [show r.drop (pV r).length = [] from List.drop_of_length_le (by rw [List.length_map]; exact Nat.le_refl _)] at hrk
      have e : idx = rank (cd ws) (cs z) r := hrk
      refine ⟨_, rfl, ?_⟩
      rw [e]
      exact q _ (s03.trans s4)

/-! ### read_at -/
theorem scReadAt : FnScope ["code", "string", "at"] ["code", "string"] (defScope sReadAt) := ⟨rfl, rfl, rfl, by decide +kernel, rfl, by decide +kernel, by decide +kernel⟩
def spReadAt : Sp := fun vs H Q _ => ∃ (c : Addr) (ws : List Str) (z : Str), vs = [.ref c, .str z] ∧ CodeAt H c ws ∧ CodeOk ws ∧ z.length ≤ 24 ∧ ∀ H' p, Same H H' → NumAt H' p (readL (cd ws) (cs z)) → Q (.ref p) H'
theorem has_readAt (T : Txt K mg) (D : DefAt K mg "read_at" sReadAt) (GP : Has P w K mg base CX0 2 "parses_of" ["code", "string"] spParses) : Has P w K mg base CX0 3 "read_at" ["code", "string"] spReadAt := by
  obtain ⟨f, fd, g, F⟩ := D
  refine ⟨f, fd, g, F.kp, F.binds (fun _ _ _ _ _ _ us hl => match us, hl with | [_, _], _ => rfl), F.ok scReadAt (fun vs H Q E h => ?_) (fun cdv A outer s H vs Q E hr h => ?_)⟩
  · obtain ⟨c, ws, z, rfl, _⟩ := h
    rfl
  · obtain ⟨c, ws, z, rfl, hc, ok, hz, q⟩ := h
    refine ⟨_, pss_one (ps_ret (pe_callTy call_tuple_of (by rfl) T.tup boot_tuple (pa_cons
          (pe_lc (own := [("at", 2)]) (g := gName 2) (by rfl) scReadAt.nd (pi_range1 (by rfl) T.rng (pa_cons (pe_op op_add (pe_callB call_len_str (by rfl) T.len boot_len (pa_cons (pv 1) pa_nil)) pe_int) pa_nil))
            (blkOk_by (own := [("at", 2)]) (N := ["code", "string", "at"]) (sc := defScope sReadAt) (by decide +kernel))
            (fun _ _ _ _ _ => pg_name (i := 2) scReadAt.nd rfl (Or.inl rfl)) (fun _ _ _ _ _ => pts_nil)
            (fun _ _ _ _ _ => pe_op op_mul (pe_has GP hr (by rfl) (pa_cons (pv 0) (pa_cons (pe_slice sl_str (pv 1) po_none (po_some (pv 2))) pa_nil))) (pe_has GP hr (by rfl) (pa_cons (pv 0) (pa_cons (pe_slice sl_str (pv 1) (po_some (pv 2)) po_none) pa_nil))))) pa_nil))), ?_⟩
    have zl : z.length ≤ sizeLine := Nat.le_of_lt (small1000 (by omega))
    refine ⟨_, rfl, z, rfl, zl, _, _, rfl, rfl, (z.length : Int) + 1, rfl, by omega, by omega, fun D hD => lc_map walk_range (fun a => iN (cnt (cd ws) ((cs z).take a) * cnt (cd ws) ((cs z).drop a))) hD ?_ (fun _ _ => trivial) (fun i x H1 H2 R hi s1 y hR => ?_) (fun H1 s1 e1 => ?_)⟩
    · exact Nat.le_of_lt (small1000 (by omega))
    · obtain ⟨rfl, hx⟩ := y
      have ex : x = iN i := hx.trans (congrArg V.int (by show (0 : Int) + (i : Int) = _; omega))
      clear hx
      subst ex
      have hiz : i ≤ z.length := by omega
      have l1 : (cutS z none (some (i : Int))).length ≤ 24 := by
        rw [← cs_len, cut_head z i hiz, List.length_take, cs_len]
        omega
      have l2 : (cutS z (some (i : Int)) none).length ≤ 24 := by
        rw [← cs_len, cut_tail z i hiz, List.length_drop, cs_len]
        omega
      refine ⟨_, rfl, _, rfl, _, rfl, _, rfl, z, rfl, zl, c, ws, _, rfl, hc.same s1, ok, by omega, fun H3 s3 => ?_⟩
      refine ⟨_, rfl, _, rfl, _, rfl, _, rfl, z, rfl, zl, c, ws, _, rfl, (hc.same s1).same s3, ok, by omega, fun H4 s4 => ?_⟩
      rw [cut_head z i hiz, cut_tail z i hiz]
      have b : cnt (cd ws) ((cs z).take i) < 2 ^ 64 := ok.cnt_lt (by rw [List.length_take, cs_len]; omega)
      refine ⟨_, _, rfl, rfl, .inl ⟨by omega, by omega⟩, ?_⟩
      have e : (((cnt (cd ws) ((cs z).take i) : Nat) : Int)) * ((cnt (cd ws) ((cs z).drop i) : Nat) : Int) = ((cnt (cd ws) ((cs z).take i) * cnt (cd ws) ((cs z).drop i) : Nat) : Int) := (Int.natCast_mul _ _).symm
      show R (V.int (((cnt (cd ws) ((cs z).take i) : Nat) : Int) * ((cnt (cd ws) ((cs z).drop i) : Nat) : Int))) H4
      rw [e]
      exact hR _ (s3.trans s4)
    · refine ⟨D, _, rfl, .inl ⟨.inl (.inl e1), fun p np => q _ p (s1.trans (same_new np)) ?_⟩⟩
      unfold NumAt
      rw [upd_same, keptL_fun]
      have e : ((z.length : Int) + 1).toNat = (cs z).length + 1 := by rw [cs_len]; omega
      rw [e]
      refine congrArg (fun l => some (HO.tup l)) ?_
      unfold readL
      show _ = List.map _ (List.map _ _)
      rw [List.map_map]
      rfl

/-! ### boundaries -/
theorem read_get {C : List Wd} {t : Wd} {i : Nat} {x : V} (h : (pV (readL C t))[i]? = some x) : i ≤ t.length ∧ x = iN (cnt C (t.take i) * cnt C (t.drop i)) := by
  unfold readL at h
  obtain ⟨n, hn, rfl⟩ := pV_at h
  rw [List.getElem?_map] at hn
  have hi : i < t.length + 1 := by
    rcases Nat.lt_or_ge i (t.length + 1) with z | z
    · exact z
    · rw [List.getElem?_eq_none (by rw [List.length_range]; exact z)] at hn
      cases hn
  rw [List.getElem?_range hi] at hn
  exact ⟨by omega, by rw [← Option.some.inj hn]⟩
theorem read_len {C : List Wd} {t : Wd} : (pV (readL C t)).length = t.length + 1 := by
  unfold readL
  rw [List.length_map, List.length_map, List.length_range]
theorem scBounds : FnScope ["code", "string", "at", "many"] ["code", "string"] (defScope sBounds) := ⟨rfl, rfl, rfl, by decide +kernel, rfl, by decide +kernel, by decide +kernel⟩
def spBounds : Sp := fun vs H Q _ => ∃ (c : Addr) (ws : List Str) (z : Str), vs = [.ref c, .str z] ∧ CodeAt H c ws ∧ CodeOk ws ∧ Abc z ∧ z.length ≤ 24 ∧ ∀ H' p, Same H H' → NumAt H' p (someP (cd ws) (cs z)) → Q (.ref p) H'
theorem has_bounds (T : Txt K mg) (D : DefAt K mg "boundaries" sBounds) (GC : Has P w K mg base CX0 4 "check_string" ["code", "string"] spCheckString) (GR : Has P w K mg base CX0 3 "read_at" ["code", "string"] spReadAt) :
    Has P w K mg base CX0 5 "boundaries" ["code", "string"] spBounds := by
  obtain ⟨f, fd, g, F⟩ := D
  refine ⟨f, fd, g, F.kp, F.binds (fun _ _ _ _ _ _ us hl => match us, hl with | [_, _], _ => rfl), F.ok scBounds (fun vs H Q E h => ?_) (fun cdv A outer s H vs Q E hr h => ?_)⟩
  · obtain ⟨c, ws, z, rfl, _⟩ := h
    rfl
  · obtain ⟨c, ws, z, rfl, hc, ok, ha, hz, q⟩ := h
    have hr3 : Room 3 _ := hr.mono (by decide)
    refine ⟨_, pss_cons (ps_expr (pe_has GC hr (by rfl) (pa_cons (pv 0) (pa_cons (pv 1) pa_nil)))) (pss_one (ps_ret (pe_callTy call_tuple_of (by rfl) T.tup boot_tuple (pa_cons
          (pe_lc (own := [("at", 2), ("many", 3)]) (g := gTup K 2 (gCons (gName 2) (gCons (gName 3) gNil))) (by rfl) scBounds.nd (pi_en (by rfl) T.enu (pa_cons (pe_has GR hr3 (by rfl) (pa_cons (pv 0) (pa_cons (pv 1) pa_nil))) pa_nil))
            (blkOk_by (own := [("at", 2), ("many", 3)]) (N := ["code", "string", "at", "many"]) (sc := defScope sBounds) (by decide +kernel))
            (fun _ _ _ _ _ => pg_tup (by rfl) (pgs_cons (pg_name (i := 2) scBounds.nd rfl (Or.inl rfl)) (pgs_cons (pg_name (i := 3) scBounds.nd rfl (Or.inl rfl)) pgs_nil)))
            (fun _ _ _ _ _ => pts_one (pt_cmpR op_gt (pv 3) pe_int (nomark _))) (fun _ _ _ _ _ => pv 2)) pa_nil)))), ?_⟩
    refine ⟨_, rfl, _, rfl, c, ws, z, rfl, hc, ok, ha, hz, fun H1 s1 => ?_⟩
    refine ⟨_, rfl, _, rfl, c, ws, z, rfl, hc.same s1, ok, hz, fun H2 pr s2 hpr => ?_⟩
    refine ⟨pr, _, rfl, .inl (.inl hpr), fun D hD => lc_en hpr (by decide) iN (fun a => decide (0 < cnt (cd ws) ((cs z).take a) * cnt (cd ws) ((cs z).drop a))) hD ?_ (fun i x H3 H4 R N hx s3 s4 hR hN => ?_) (fun H3 s3 e3 => ?_)⟩
    · rw [read_len, cs_len]
      exact Nat.le_of_lt (small1000 (by omega))
    · obtain ⟨hi, rfl⟩ := read_get hx
      refine ⟨_, rfl, _, _, rfl, rfl, _, rfl, ?_⟩
      by_cases m : 0 < cnt (cd ws) ((cs z).take i) * cnt (cd ws) ((cs z).drop i)
      · rw [decide_eq_true (by omega : (0 : Int) < ((cnt (cd ws) ((cs z).take i) * cnt (cd ws) ((cs z).drop i) : Nat) : Int))]
        exact iteT ⟨_, rfl, hR (decide_eq_true m) _ (Same.refl _)⟩
      · rw [decide_eq_false (by omega : ¬ (0 : Int) < ((cnt (cd ws) ((cs z).take i) * cnt (cd ws) ((cs z).drop i) : Nat) : Int))]
        exact iteF (hN (decide_eq_false m) _ (Same.refl _))
    · refine ⟨D, _, rfl, .inl ⟨.inl (.inl e3), fun p np => q _ p ((s1.trans s2).trans (s3.trans (same_new np))) ?_⟩⟩
      unfold NumAt
      rw [upd_same, read_len]
      rfl

/-! ### common_boundaries -/
theorem scCommon : FnScope ["code", "string", "many", "at", "one"] ["code", "string"] (defScope sCommon) := ⟨rfl, rfl, rfl, by decide +kernel, rfl, by decide +kernel, by decide +kernel⟩
def spCommon (CN : Addr) : Sp := fun vs H Q E => ∃ (c : Addr) (ws : List Str) (z : Str), vs = [.ref c, .str z] ∧ CodeAt H c ws ∧ CodeOk ws ∧ Abc z ∧ z.length ≤ 24 ∧
  (cnt (cd ws) (cs z) ≠ 0 → ∀ H' p, Same H H' → NumAt H' p (allP (cd ws) (cs z)) → Q (.ref p) H') ∧
  (cnt (cd ws) (cs z) = 0 → ∀ H' d, Same H H' → H' d = some (.xd [(("why" : Str), .str "message")]) → E (.ref CN) (some d) H')
theorem has_common {CN fI : Addr} (T : Txt K mg) (TN : PySem.NotPX.NotPTxt K mg CN fI) (D : DefAt K mg "common_boundaries" sCommon) (GC : Has P w K mg base CX0 4 "check_string" ["code", "string"] spCheckString)
    (GP : Has P w K mg base CX0 2 "parses_of" ["code", "string"] spParses) (GR : Has P w K mg base CX0 3 "read_at" ["code", "string"] spReadAt) : Has P w K mg base (L2.CX P w) 5 "common_boundaries" ["code", "string"] (spCommon CN) := by
  obtain ⟨f, fd, g, F⟩ := D
  refine ⟨f, fd, g, F.kp, F.binds (fun _ _ _ _ _ _ us hl => match us, hl with | [_, _], _ => rfl), F.okX scCommon (fun vs H Q E h => ?_) (fun cdv A outer s H vs Q E hr h => ?_)⟩
  · obtain ⟨c, ws, z, rfl, _⟩ := h
    rfl
  · obtain ⟨c, ws, z, rfl, hc, ok, ha, hz, qS, qE⟩ := h
    have hr3 : Room 3 _ := hr.mono (by decide)
    have hr2 : Room 2 _ := hr.mono (by decide)
    refine ⟨_, pss_cons (ps_expr (pe_has GC hr (by rfl) (pa_cons (pv 0) (pa_cons (pv 1) pa_nil))))
      (pss_cons (ps_set (i := 2) scCommon.nd rfl (Or.inr rfl) (pe_has GP hr2 (by rfl) (pa_cons (pv 0) (pa_cons (pv 1) pa_nil))))
      (pss_cons (ps_if (pt_cmpR op_eq (pv 2) pe_int (nomark _)) (pss_one (ps_raiseNotP (W := fun cls d _ H => E cls d H) rfl TN hr (takes_of rfl rfl rfl rfl) (by exact (pa_cons pe_str pa_nil)))) pss_nil)
      (PSs.nox (pss_one (ps_ret (pe_callTy call_tuple_of (by rfl) T.tup boot_tuple (pa_cons
          (pe_lc (own := [("at", 3), ("one", 4)]) (g := gTup K 2 (gCons (gName 3) (gCons (gName 4) gNil))) (by rfl) scCommon.nd (pi_en (by rfl) T.enu (pa_cons (pe_has GR hr3 (by rfl) (pa_cons (pv 0) (pa_cons (pv 1) pa_nil))) pa_nil))
            (blkOk_by (own := [("at", 3), ("one", 4)]) (N := ["code", "string", "many", "at", "one"]) (sc := defScope sCommon) (by decide +kernel))
            (fun _ _ _ _ _ => pg_tup (by rfl) (pgs_cons (pg_name (i := 3) scCommon.nd rfl (Or.inl rfl)) (pgs_cons (pg_name (i := 4) scCommon.nd rfl (Or.inl rfl)) pgs_nil)))
            (fun _ _ _ _ _ => pts_one (pt_cmpR op_eq (pv 4) (pv 2) (nomark _))) (fun _ _ _ _ _ => pv 3)) pa_nil))))))), ?_⟩
    refine ⟨_, rfl, _, rfl, c, ws, z, rfl, hc, ok, ha, hz, fun H1 s1 => ?_⟩
    refine ⟨_, rfl, _, rfl, c, ws, z, rfl, hc.same s1, ok, by omega, fun H2 s2 => ?_⟩
    have s02 := s1.trans s2
    refine ⟨_, rfl, rfl, _, rfl, ?_⟩
    by_cases h0 : cnt (cd ws) (cs z) = 0
    · have e : decide (iN (cnt (cd ws) (cs z)) = V.int 0) = true := decide_eq_true (by rw [h0]; rfl)
      rw [e]
      exact iteT ⟨_, rfl, fun d nd => qE h0 _ d (s02.trans (same_new nd)) upd_same⟩
    · have e : decide (iN (cnt (cd ws) (cs z)) = V.int 0) = false := decide_eq_false (fun z => h0 (by have := V.int.inj z; omega))
      rw [e]
      refine iteF ?_
      refine ⟨_, rfl, _, rfl, c, ws, z, rfl, hc.same s02, ok, hz, fun H3 pr s3 hpr => ?_⟩
      refine ⟨pr, _, rfl, .inl (.inl hpr), fun D hD => lc_en hpr (by decide) iN (fun a => decide (cnt (cd ws) ((cs z).take a) * cnt (cd ws) ((cs z).drop a) = cnt (cd ws) (cs z))) hD ?_ (fun i x H4 H5 R N hx s4 s5 hR hN => ?_) (fun H4 s4 e4 => ?_)⟩
      · rw [read_len, cs_len]
        exact Nat.le_of_lt (small1000 (by omega))
      · obtain ⟨hi, rfl⟩ := read_get hx
        refine ⟨_, rfl, _, rfl, rfl, _, rfl, ?_⟩
        by_cases m : cnt (cd ws) ((cs z).take i) * cnt (cd ws) ((cs z).drop i) = cnt (cd ws) (cs z)
        · rw [decide_eq_true (congrArg iN m)]
          exact iteT ⟨_, rfl, hR (decide_eq_true m) _ (Same.refl _)⟩
        · rw [decide_eq_false (fun z => m (by have := V.int.inj z; omega))]
          exact iteF (hN (decide_eq_false m) _ (Same.refl _))
      · refine ⟨D, _, rfl, .inl ⟨.inl (.inl e4), fun p np => qS h0 _ p ((s02.trans s3).trans (s4.trans (same_new np))) ?_⟩⟩
        unfold NumAt
        rw [upd_same, read_len]
        rfl
end
end K02
/-! the law's drawing -/
namespace K02
open PySem PySem.Spec PyProof.Rows L2
/-- all that was tracked stands, but for the object at a -/
def But (a : Addr) (H H' : Hp) : Prop := ∀ b o, H b = some o → b ≠ a → H' b = some o
theorem But.refl (a : Addr) (H : Hp) : But a H H := fun _ _ h _ => h
theorem But.trans {a : Addr} {H H1 H2 : Hp} (s : But a H H1) (t : But a H1 H2) : But a H H2 := fun b o h n => t b o (s b o h n) n
theorem But.of {a : Addr} {H H' : Hp} (s : Same H H') : But a H H' := fun b o h _ => s b o h
theorem But.upd {a : Addr} {H H' : Hp} {o : HO} (s : But a H H') : But a H (upd H' a o) := fun b u h n => by
  rw [upd_ne n]
  exact s b u h n
theorem But.new {a p : Addr} {H H' : Hp} {o : HO} (s : But a H H') (h : H' p = none) : But a H (L2.upd H' p o) := s.trans (But.of (same_new h))
theorem But.code {a c : Addr} {H H' : Hp} {ws : List Str} (s : But a H H') (h : CodeAt H c ws) (n : c ≠ a) : CodeAt H' c ws := s _ _ h n
/-- what is new beside a stays new -/
theorem But.free {a p : Addr} {H H' : Hp} (s : But a H H') (h : H' p = none) (n : p ≠ a) : H p = none := by
  cases q : H p with
  | none => rfl
  | some o =>
    rw [s _ _ q n] at h
    cases h
theorem But.at {a p : Addr} {H H1 : Hp} {o : HO} (s : But a H H1) (h : H p = none) : But a H (L2.upd H1 p o) := fun b u e n => by
  rw [upd_ne (ne_of_none e h)]
  exact s b u e n
/-- the stream at a: its own list l of the script, two numbers -/
def StreamAt (H : Hp) (a l : Addr) : Prop := ∃ (ns : List Int) (x : Int) (k : Nat), H a = some (.lst [.ref l, .int x, .int (k : Int)]) ∧ H l = some (.lst (ns.map V.int)) ∧ l ≠ a
theorem StreamAt.same {H H' : Hp} {a l : Addr} (h : StreamAt H a l) (s : Same H H') : StreamAt H' a l := by
  obtain ⟨ns, x, k, h1, h2, h3⟩ := h
  exact ⟨ns, x, k, s _ _ h1, s _ _ h2, h3⟩
theorem StreamAt.beside {H : Hp} {a l p : Addr} {o : HO} (h : StreamAt H a l) (n1 : p ≠ a) (n2 : p ≠ l) : StreamAt (upd H p o) a l := by
  obtain ⟨ns, x, k, h1, h2, h3⟩ := h
  exact ⟨ns, x, k, by rw [upd_ne (Ne.symm n1)]; exact h1, by rw [upd_ne (Ne.symm n2)]; exact h2, h3⟩
theorem StreamAt.apart {H : Hp} {a l p : Addr} (h : StreamAt H a l) (n : H p = none) : p ≠ a ∧ p ≠ l := by
  obtain ⟨ns, x, k, h1, h2, h3⟩ := h
  exact ⟨Ne.symm (ne_of_none h1 n), Ne.symm (ne_of_none h2 n)⟩
section
variable {P : Program} {w : World} {K : PySem.W.Frag} {mg : Str → Option Value} {base : Heap}
/-! ### _law_stream -/
theorem scLStream : FnScope ["_law_script"] ["_law_script"] (defScope sLStream) := ⟨rfl, rfl, rfl, by decide +kernel, rfl, by decide +kernel, by decide +kernel⟩
def spStream (K : PySem.W.Frag) : Sp := fun vs H Q _ => ∃ (a0 : Addr) (ns : List Int), vs = [.ref a0] ∧ SqL K H a0 (ns.map V.int) ∧ ∀ H' a l, Same H H' → H a = none → StreamAt H' a l → Q (.ref a) H'
theorem has_stream (T : Txt K mg) (D : DefAt K mg "_law_stream" sLStream) : Has P w K mg base CX0 1 "_law_stream" ["_law_script"] (spStream K) := by
  obtain ⟨f, fd, g, F⟩ := D
  refine ⟨f, fd, g, F.kp, F.binds (fun _ _ _ _ _ _ us hl => match us, hl with | [_], _ => rfl), F.ok scLStream (fun vs H Q E h => ?_) (fun cdv A outer s H vs Q E hr h => ?_)⟩
  · obtain ⟨a0, ns, rfl, _⟩ := h
    rfl
  · obtain ⟨a0, ns, rfl, hs, q⟩ := h
    refine ⟨_, pss_one (ps_ret (pe_lst (pa_cons (pe_callTy call_list_of (by rfl) T.lst boot_list (pa_cons (pv 0) pa_nil)) (pa_cons pe_int (pa_cons pe_int pa_nil))))), ?_⟩
    refine ⟨_, rfl, a0, _, rfl, .inl hs, fun l nl => ⟨(by decide : 3 ≤ sizeLine), fun a na => ?_⟩⟩
    have hne : l ≠ a := ne_of_none (show upd H l (.lst (ns.map V.int)) l = some _ from upd_same) na
    refine q _ a l ((same_new nl).trans (same_new na)) ((same_new nl).free na) ⟨ns, 0, 0, upd_same, ?_, hne⟩
    rw [upd_ne hne, upd_same]

/-! ### _law_next -/
abbrev nNext : List Str := ["_law_stream_here", "_law_many", "_law_k", "_law_cell", "_law_digit"]
theorem scLNext : FnScope nNext ["_law_stream_here", "_law_many"] (defScope sLNext) := ⟨rfl, rfl, rfl, by decide +kernel, rfl, by decide +kernel, by decide +kernel⟩
def spNext : Sp := fun vs H Q _ => ∃ (a l : Addr) (m : Int), vs = [.ref a, .int m] ∧ StreamAt H a l ∧ 1 ≤ m ∧ m < 1073741824 ∧ ∀ (d : Nat) H', (d : Int) < m → But a H H' → StreamAt H' a l → Q (iN d) H'
theorem has_next (T : Txt K mg) (D : DefAt K mg "_law_next" sLNext) : Has P w K mg base CX0 1 "_law_next" ["_law_stream_here", "_law_many"] spNext := by
  obtain ⟨f, fd, g, F⟩ := D
  refine ⟨f, fd, g, F.kp, F.binds (fun _ _ _ _ _ _ us hl => match us, hl with | [_, _], _ => rfl), F.ok scLNext (fun vs H Q E h => ?_) (fun cdv A outer s H vs Q E hr h => ?_)⟩
  · obtain ⟨a, l, m, rfl, _⟩ := h
    rfl
  · obtain ⟨a, l, m, rfl, ⟨ns, x, k, ha, hl, hne⟩, m1, m2, q⟩ := h
    refine ⟨_, C8.pss_cut (ps_if (pt_cmpR op_eq (pe_ix ix_list (pv 0) pe_int (fun _ _ => rfl)) pe_int (nomark _))
        (pss_cons (ps_set (i := 2) scLNext.nd rfl (Or.inl rfl) (pe_ix ix_list (pv 0) pe_int (fun _ _ => rfl)))
        (pss_cons (ps_set (i := 3) scLNext.nd rfl (Or.inl rfl) (pe_op op_add pe_int (pv 2)))
        (C8.pss_cut (ps_if (pt_cmpR op_lt (pv 2) (pe_callB cr_len (by rfl) T.len boot_len (pa_cons (pe_ix ix_list (pv 0) pe_int (fun _ _ => rfl)) pa_nil)) (nomark _))
            (pss_one (ps_set (i := 3) scLNext.nd rfl (Or.inl rfl) (pe_callB call_abs (by rfl) T.abs boot_abs (pa_cons (pe_ix ix_list (pe_ix ix_list (pv 0) pe_int (fun _ _ => rfl)) (pv 2) (fun _ _ => rfl)) pa_nil)))) pss_nil)
        (C8.pss_cut (ps_if (pt_cmpR op_lt (pv 3) (pe_op op_pow pe_int pe_int) (nomark _))
            (pss_cons (ps_set (i := 3) scLNext.nd rfl (Or.inl rfl) (pe_op op_modN (pe_callTy call_int1 (by rfl) T.int boot_int (pa_cons (pe_op op_add (pe_op op_add (pe_op op_mul (pv 3) pe_int) (pe_op op_mul (pv 2) pe_int)) pe_int) pa_nil)) pe_int))
            (pss_one (ps_set (i := 3) scLNext.nd rfl (Or.inl rfl) (pe_op op_add (pe_op op_mul (pe_op op_modN (pe_callTy call_int1 (by rfl) T.int boot_int (pa_cons (pe_op op_add (pe_op op_mul (pv 3) pe_int) pe_int) pa_nil)) pe_int) pe_int) (pv 3))))) pss_nil)
        (pss_cons (ps_asg (pv 3) (pg_sub (pv 0) pe_int set_list))
        (pss_one (ps_asg (pe_op op_add (pv 2) pe_int) (pg_sub (pv 0) pe_int set_list)))))))) pss_nil)
      (pss_cons (ps_set (i := 4) scLNext.nd rfl (Or.inl rfl) (pe_op op_modN (pe_callTy call_int1 (by rfl) T.int boot_int (pa_cons (pe_ix ix_list (pv 0) pe_int (fun _ _ => rfl)) pa_nil)) (pv 1)))
      (pss_cons (ps_asg (pe_op op_fdivN (pe_ix ix_list (pv 0) pe_int (fun _ _ => rfl)) (pv 1)) (pg_sub (pv 0) pe_int set_list))
      (pss_one (ps_ret (pv 4))))), ?_⟩
    refine ⟨fun σ H' => ∃ (x : Int) (k : Nat) (y2 y3 : Option V), σ = [some (.ref a), some (.int m), y2, y3, none] ∧ But a H H' ∧ H' a = some (.lst [.ref l, .int x, .int (k : Int)]), ?_, ?_⟩
    · refine ⟨_, rfl, a, _, 1, _, rfl, rfl, .inl (.inl ha), rfl, rfl, _, rfl, ite2 (fun _ => ?_) (fun _ => ⟨x, k, none, none, rfl, But.refl _ _, ha⟩)⟩
      refine ⟨_, rfl, a, _, 2, _, rfl, rfl, .inl (.inl ha), rfl, ?_⟩
      refine ⟨_, rfl, _, _, rfl, rfl, ?_⟩
      refine ⟨fun σ H' => ∃ y : Int, σ = [some (.ref a), some (.int m), some (.int (k : Int)), some (.int y), none] ∧ H' = H, ?_, ?_⟩
      · refine ⟨_, rfl, _, rfl, a, _, 0, _, rfl, rfl, .inl (.inl ha), rfl, _, _, rfl, .inl ⟨_, .inl (.inl hl), rfl⟩, _, _, rfl, rfl, _, rfl, ite2 (fun hlt => ?_) (fun _ => ⟨_, rfl, rfl⟩)⟩
        have hlt2 : k < ns.length := by
          have := of_decide_eq_true hlt
          rw [List.length_map] at this
          omega
        refine ⟨_, rfl, a, _, 0, _, rfl, rfl, .inl (.inl ha), rfl, _, rfl, l, _, _, .int ns[k], rfl, rfl, .inl (.inl hl), atI_nat (j := k) ?_, _, rfl, _, rfl, rfl⟩
        rw [List.getElem?_map, List.getElem?_eq_getElem hlt2]
        rfl
      · rintro σ H' ⟨y, rfl, rfl⟩
        refine ⟨fun σ H2 => ∃ y : Int, σ = [some (.ref a), some (.int m), some (.int (k : Int)), some (.int y), none] ∧ H2 = H', ?_, ?_⟩
        · refine ⟨_, rfl, _, _, rfl, rfl, ⟨by decide, by decide, by decide⟩, _, _, rfl, rfl, _, rfl, ite2 (fun _ => ?_) (fun _ => ⟨_, rfl, rfl⟩)⟩
          refine ⟨_, rfl, _, _, rfl, rfl, .inr ⟨by decide, by decide⟩, _, rfl, _, _, rfl, rfl, .inr ⟨by decide, by decide⟩, _, _, rfl, rfl, _, _, rfl, rfl, .inl ⟨_, rfl, _, _, rfl, rfl, (by show (2147483647 : Int) ≠ 0; decide), ?_⟩⟩
          exact ⟨_, rfl, _, _, rfl, rfl, .inr ⟨by decide, by decide⟩, _, _, rfl, rfl, .inl ⟨_, rfl, _, _, rfl, rfl, (by show (2147483647 : Int) ≠ 0; decide), _, _, rfl, rfl, .inr ⟨by decide, by decide⟩, _, rfl, _, _, rfl, rfl, _, rfl, rfl⟩⟩
        · rintro σ H2 ⟨y, rfl, rfl⟩
          refine ⟨_, rfl, _, rfl, a, _, 1, 1, rfl, rfl, ha, rfl, ?_⟩
          refine ⟨_, rfl, _, _, rfl, rfl, _, rfl, a, _, 2, 2, rfl, rfl, upd_same, rfl, ?_⟩
          refine ⟨y, k + 1, _, _, rfl, But.upd (But.upd (But.refl _ _)), ?_⟩
          rw [upd_same]
          rfl
    · rintro σ H' ⟨x, k, y2, y3, rfl, s1, ha1⟩
      have d0 : 0 ≤ Int.fmod x m := Int.fmod_nonneg_of_pos x (by omega)
      have d1 : Int.fmod x m < m := Int.fmod_lt_of_pos x (by omega)
      refine ⟨_, rfl, a, _, 1, _, rfl, rfl, .inl (.inl ha1), rfl, .inl ⟨_, rfl, _, rfl, _, _, rfl, rfl, by omega, ?_⟩⟩
      refine ⟨_, rfl, a, _, 1, _, rfl, rfl, .inl (.inl ha1), rfl, _, rfl, _, _, rfl, rfl, ⟨by omega, by omega⟩, _, rfl, a, _, 1, 1, rfl, rfl, ha1, rfl, _, rfl, ?_⟩
      have e : (fun i j : Int => V.int (i.fmod j)) x m = iN (x.fmod m).toNat := congrArg V.int (by show x.fmod m = _; omega)
      rw [e]
      refine q _ _ (by omega) (But.upd s1) ⟨ns, _, k, upd_same, ?_, hne⟩
      rw [upd_ne hne]
      exact s1 _ _ hl hne
end
end K02
/-! what the law draws: an item, a text, a code, a message -/
namespace K02
open PySem PySem.Spec PyProof.Rows L2
section
variable {P : Program} {w : World} {K : PySem.W.Frag} {mg : Str → Option Value} {base : Heap}
/-! ### _law_pick -/
theorem scLPick : FnScope ["_law_stream_here", "_law_rows"] ["_law_stream_here", "_law_rows"] (defScope sLPick) := ⟨rfl, rfl, rfl, by decide +kernel, rfl, by decide +kernel, by decide +kernel⟩
def spPick : Sp := fun vs H Q _ => ∃ (a l b : Addr) (xs : List V), vs = [.ref a, .ref b] ∧ StreamAt H a l ∧ b ≠ a ∧ (H b = some (.lst xs) ∨ H b = some (.tup xs)) ∧ 1 ≤ xs.length ∧ xs.length ≤ 1000 ∧ ∀ v H', v ∈ xs → But a H H' → StreamAt H' a l → Q v H'
theorem has_pick (T : Txt K mg) (D : DefAt K mg "_law_pick" sLPick) (GN : Has P w K mg base CX0 1 "_law_next" ["_law_stream_here", "_law_many"] spNext) : Has P w K mg base CX0 2 "_law_pick" ["_law_stream_here", "_law_rows"] spPick := by
  obtain ⟨f, fd, g, F⟩ := D
  refine ⟨f, fd, g, F.kp, F.binds (fun _ _ _ _ _ _ us hl => match us, hl with | [_, _], _ => rfl), F.ok scLPick (fun vs H Q E h => ?_) (fun cdv A outer s H vs Q E hr h => ?_)⟩
  · obtain ⟨a, l, b, xs, rfl, _⟩ := h
    rfl
  · obtain ⟨a, l, b, xs, rfl, hs, hne, hb, h1, h2, q⟩ := h
    refine ⟨_, pss_one (ps_ret (pe_ix ix_seq (pv 1) (pe_has GN hr (by rfl) (pa_cons (pv 0) (pa_cons (pe_callB cr_len (by rfl) T.len boot_len (pa_cons (pv 1) pa_nil)) pa_nil))) (fun _ _ => rfl))), ?_⟩
    refine ⟨_, rfl, _, rfl, _, rfl, _, xs.length, rfl, ?_, a, l, _, rfl, hs, by omega, by omega, fun d H' hd s1 hs1 => ?_⟩
    · rcases hb with hb | hb
      · exact .inl ⟨_, .inl (.inl hb), rfl⟩
      · exact .inr ⟨_, .inl (.inl hb), rfl⟩
    · have hdl : d < xs.length := by omega
      have hq := q xs[d] H' (List.getElem_mem hdl) s1 hs1
      have at1 : atI xs (d : Int) = some xs[d] := atI_nat (List.getElem?_eq_getElem hdl)
      rcases hb with hb | hb
      · exact .inl ⟨b, xs, _, _, rfl, rfl, .inl (.inl (s1 _ _ hb hne)), at1, hq⟩
      · exact .inr (.inl ⟨b, xs, _, _, rfl, rfl, .inl (.inl (s1 _ _ hb hne)), at1, hq⟩)

/-! ### _law_string -/
abbrev nLStr : List Str := ["_law_stream_here", "_law_least", "_law_most", "_law_letters", "_law_k"]
theorem scLStr : FnScope nLStr ["_law_stream_here", "_law_least", "_law_most", "_law_letters"] (defScope sLString) := ⟨rfl, rfl, rfl, by decide +kernel, rfl, by decide +kernel, by decide +kernel⟩
def spLStr : Sp := fun vs H Q _ => ∃ (a l : Addr) (lo hi m : Nat), vs = [.ref a, iN lo, iN hi, iN m] ∧ StreamAt H a l ∧ lo ≤ hi ∧ hi ≤ 100 ∧ 1 ≤ m ∧ m ≤ 3 ∧
  ∀ (z : Str) H', lo ≤ z.length → z.length ≤ hi → Abc z → But a H H' → StreamAt H' a l → Q (.str z) H'
theorem one_flat : ∀ {zs : List Str}, (∀ z ∈ zs, Abc z ∧ z.length = 1) → ((zs.map cs).flatten.length = zs.length ∧ ∀ c ∈ (zs.map cs).flatten, c = 97 ∨ c = 98 ∨ c = 99)
  | [], _ => ⟨rfl, fun c h => by simp at h⟩
  | z :: zs, h => by
    obtain ⟨h1, h2⟩ := one_flat (zs := zs) fun u hu => h u (List.mem_cons_of_mem _ hu)
    obtain ⟨g1, g2⟩ := h z List.mem_cons_self
    rw [List.map_cons, List.flatten_cons]
    refine ⟨?_, fun c hc => ?_⟩
    · rw [List.length_append, h1, cs_len, g2, List.length_cons]
      omega
    · rcases List.mem_append.mp hc with e | e
      · exact g1 c e
      · exact h2 c e
theorem sum_ones {α : Type} : ∀ l : List α, (l.map fun _ => 1).sum = l.length
  | [] => rfl
  | _ :: l => by
    rw [List.map_cons, List.sum_cons, sum_ones l, List.length_cons]
    omega
theorem has_lstr (T : Txt K mg) (D : DefAt K mg "_law_string" sLString) (GN : Has P w K mg base CX0 1 "_law_next" ["_law_stream_here", "_law_many"] spNext) :
    Has P w K mg base CX0 2 "_law_string" ["_law_stream_here", "_law_least", "_law_most", "_law_letters"] spLStr := by
  obtain ⟨f, fd, g, F⟩ := D
  refine ⟨f, fd, g, F.kp, F.binds (fun _ _ _ _ _ _ us hl => match us, hl with | [_, _, _, _], _ => rfl), F.ok scLStr (fun vs H Q E h => ?_) (fun cdv A outer s H vs Q E hr h => ?_)⟩
  · obtain ⟨a, l, lo, hi, m, rfl, _⟩ := h
    rfl
  · obtain ⟨a, l, lo, hi, m, rfl, hs, h1, h2, h3, h4, q⟩ := h
    refine ⟨_, pss_one (ps_ret (pe_join pe_str
          (pe_lc (own := [("_law_k", 4)]) (g := gName 4) (by rfl) scLStr.nd (pi_range1 (by rfl) T.rng (pa_cons (pe_op op_add (pv 1) (pe_has GN hr (by rfl) (pa_cons (pv 0) (pa_cons (pe_op op_add (pe_op op_sub (pv 2) (pv 1)) pe_int) pa_nil)))) pa_nil))
            (blkOk_by (own := [("_law_k", 4)]) (N := nLStr) (sc := defScope sLString) (by decide +kernel))
            (fun _ _ _ _ _ => pg_name (i := 4) scLStr.nd rfl (Or.inl rfl)) (fun _ _ _ _ _ => pts_nil)
            (fun _ _ _ _ _ => pe_ix ix_str pe_str (pe_has GN hr (by rfl) (pa_cons (pv 0) (pa_cons (pv 3) pa_nil))) (fun _ _ => rfl))))), ?_⟩
    refine ⟨⟨_, rfl⟩, _, rfl, _, rfl, _, rfl, _, rfl, _, _, rfl, rfl, _, _, rfl, rfl, a, l, _, rfl, hs, by omega, by omega, fun d H1 hd s1 hs1 => ?_⟩
    refine ⟨_, _, rfl, rfl, (lo : Int) + (d : Int), rfl, by omega, by omega, fun D hD => ?_⟩
    have en : ((lo : Int) + (d : Int)).toNat = lo + d := by omega
    rw [en]
    obtain ⟨na, nl⟩ := hs1.apart hD
    refine lc_it walk_range (fun i H2 => But a H1 H2 ∧ StreamAt H2 a l ∧ ∃ zs : List Str, zs.length = i ∧ (∀ z ∈ zs, Abc z ∧ z.length = 1) ∧ H2 D = some (.lst (zs.map V.str)))
      ⟨But.at (But.refl _ _) hD, hs1.beside na nl, [], rfl, fun z hz => by simp at hz, upd_same⟩ (fun _ _ _ _ => trivial) (fun i x H2 H3 hi hP y => ?_) (fun H2 hP => ?_)
    · obtain ⟨rfl, hx⟩ := y
      obtain ⟨s2, hs2, zs, hl, hz, eD⟩ := hP
      refine ⟨wipe_set1, ?_⟩
      refine ⟨_, rfl, _, rfl, a, l, _, rfl, hs2, by omega, by omega, fun e H4 he s4 hs4 => ?_⟩
      have eD4 : H4 D = some (.lst (zs.map V.str)) := s4 _ _ eD na
      have fin : ∀ c, (c = 97 ∨ c = 98 ∨ c = 99) → ∃ acc, H4 D = some (.lst acc) ∧ acc.length < sizeLine ∧ But a H1 (upd H4 D (.lst (acc ++ [V.str ⟨#[c]⟩]))) ∧ StreamAt (upd H4 D (.lst (acc ++ [V.str ⟨#[c]⟩]))) a l ∧
          ∃ zs : List Str, zs.length = i + 1 ∧ (∀ z ∈ zs, Abc z ∧ z.length = 1) ∧ (upd H4 D (.lst (acc ++ [V.str ⟨#[c]⟩]))) D = some (.lst (zs.map V.str)) := fun c hc => by
        refine ⟨_, eD4, ?_, But.at (s2.trans s4) hD, hs4.beside na nl, zs ++ [⟨#[c]⟩], by rw [List.length_append, hl]; rfl, fun z hz2 => ?_, ?_⟩
        · rw [List.length_map, hl]
          exact small1000 (by omega)
        · rcases List.mem_append.mp hz2 with e | e
          · exact hz z e
          · have e2 : z = ⟨#[c]⟩ := by simpa using e
            rw [e2]
            exact ⟨fun c2 h2 => by have e3 : c2 = c := by simpa using h2
                                   rw [e3]
                                   exact hc, rfl⟩
        · rw [upd_same, List.map_append]
          rfl
      have abc : (Str.ofString "abc").cps.toList = [97, 98, 99] := by decide +kernel
      have line : (Str.ofString "abc").length ≤ sizeLine := by decide +kernel
      have he3 : e = 0 ∨ e = 1 ∨ e = 2 := by omega
      rcases he3 with rfl | rfl | rfl
      · exact ⟨_, _, 97, rfl, rfl, line, by rw [abc]; rfl, fin 97 (.inl rfl)⟩
      · exact ⟨_, _, 98, rfl, rfl, line, by rw [abc]; rfl, fin 98 (.inr (.inl rfl))⟩
      · exact ⟨_, _, 99, rfl, rfl, line, by rw [abc]; rfl, fin 99 (.inr (.inr rfl))⟩
    · obtain ⟨s2, hs2, zs, hl, hz, eD⟩ := hP
      obtain ⟨f1, f2⟩ := one_flat hz
      have ul : (Txt.join (Str.ofString "") zs).length = lo + d := by
        rw [← cs_len, join_cs, f1, hl]
      refine ⟨_, D, zs, rfl, rfl, .inl (.inl (.inl eD)), ?_, q _ _ (by omega) (by omega) ?_ (s1.trans s2) hs2⟩
      · have e4 : (Str.ofString "").length = 0 := by decide +kernel
        have e5 : (zs.map (·.length)).sum = zs.length := by
          have e6 : zs.map (·.length) = zs.map fun _ => 1 := List.map_congr_left fun z hz2 => (hz z hz2).2
          rw [e6, sum_ones]
        rw [e4, e5, hl]
        omega
      · intro c hc
        have hc2 : c ∈ cs (Txt.join (Str.ofString "") zs) := hc
        rw [join_cs] at hc2
        exact f2 c hc2

/-! ### _law_code -/
abbrev nLCode : List Str := ["_law_stream_here", "_law_many", "_law_most", "_law_letters", "_law_words", "_law_turn", "_law_word"]
theorem scLCode : FnScope nLCode ["_law_stream_here", "_law_many", "_law_most"] (defScope sLCode) := ⟨rfl, rfl, rfl, by decide +kernel, rfl, by decide +kernel, by decide +kernel⟩
def spLCode : Sp := fun vs H Q _ => ∃ (a l : Addr), vs = [.ref a, .int 5, .int 3] ∧ StreamAt H a l ∧
  ∀ (c : Addr) (ws : List Str) H', But a H H' → StreamAt H' a l → CodeAt H' c ws → CodeOk ws → c ≠ a → H c = none → Q (.ref c) H'
theorem inV_strs {ws : List Str} {z : Str} : inV (.str z) (ws.map V.str) = decide (z ∈ ws) := by
  unfold inV
  rw [List.any_map]
  induction ws with
  | nil => rfl
  | cons u ws ih =>
    rw [List.any_cons, ih]
    show (u == z || decide (z ∈ ws)) = decide (z ∈ u :: ws)
    by_cases e : u = z
    · rw [e, beq_self_eq_true]
      simp
    · rw [beq_eq_false_iff_ne.mpr e, Bool.false_or]
      exact decide_eq_decide.mpr ⟨fun h => List.mem_cons_of_mem _ h, fun h => (List.mem_cons.mp h).resolve_left fun z => e z.symm⟩
theorem flat_strs (ws : List Str) : (ws.map V.str).all flatV = true := List.all_eq_true.mpr fun x hx => by
  obtain ⟨u, _, rfl⟩ := List.mem_map.mp hx
  rfl
theorem has_lcode (T : Txt K mg) (D : DefAt K mg "_law_code" sLCode) (GN : Has P w K mg base CX0 1 "_law_next" ["_law_stream_here", "_law_many"] spNext) (GP : Has P w K mg base CX0 2 "_law_pick" ["_law_stream_here", "_law_rows"] spPick)
    (GS : Has P w K mg base CX0 2 "_law_string" ["_law_stream_here", "_law_least", "_law_most", "_law_letters"] spLStr) : Has P w K mg base CX0 3 "_law_code" ["_law_stream_here", "_law_many", "_law_most"] spLCode := by
  obtain ⟨f, fd, g, F⟩ := D
  refine ⟨f, fd, g, F.kp, F.binds (fun _ _ _ _ _ _ us hl => match us, hl with | [_, _, _], _ => rfl), F.ok scLCode (fun vs H Q E h => ?_) (fun cdv A outer s H vs Q E hr h => ?_)⟩
  · obtain ⟨a, l, rfl, _⟩ := h
    rfl
  · obtain ⟨a, l, rfl, hs, q⟩ := h
    have hr1 : Room 1 _ := hr.mono (by decide)
    refine ⟨_, pss_cons (ps_set (i := 3) scLCode.nd rfl (Or.inl rfl) (pe_has GP hr (by rfl) (pa_cons (pv 0) (pa_cons (pe_lst (pa_cons pe_int (pa_cons pe_int (pa_cons pe_int (pa_cons pe_int pa_nil))))) pa_nil))))
      (pss_cons (ps_set (i := 4) scLCode.nd rfl (Or.inl rfl) (pe_lst pa_nil))
      (pss_cons (ps_for PassesOwn.never rfl (pi_range1 (by rfl) T.rng (pa_cons (pe_has GN hr1 (by rfl) (pa_cons (pv 0) (pa_cons (pe_op op_add (pv 1) pe_int) pa_nil))) pa_nil)) (pg_name (i := 5) scLCode.nd rfl (Or.inl rfl))
        (pss_cons (ps_set (i := 6) scLCode.nd rfl (Or.inl rfl) (pe_has GS hr (by rfl) (pa_cons (pv 0) (pa_cons pe_int (pa_cons (pv 2) (pa_cons (pv 3) pa_nil))))))
        (pss_one (ps_expr (pe_bm PySem.F.plainAttrs_list PySem.F.slot_list_extend PySem.F.type_list_extend mt_extend (pv 4) (pa_cons (pe_ifExp (pt_cmpR op_notIn_seq (pv 6) (pv 4) rfl) (pe_lst (pa_cons (pv 6) pa_nil)) (pe_lst pa_nil)) pa_nil))))))
      (pss_one (ps_ret (pe_callTy call_tuple_of (by rfl) T.tup boot_tuple (pa_cons (pv 4) pa_nil)))))), ?_⟩
    refine ⟨_, rfl, (by decide : 4 ≤ sizeLine), fun r nr => ?_⟩
    obtain ⟨nra, nrl⟩ := hs.apart nr
    refine ⟨a, l, r, _, rfl, hs.beside nra nrl, nra, .inl upd_same, by decide, by decide, fun v H1 hv s1 hs1 => ?_⟩
    have s01 : But a H H1 := (But.of (same_new nr)).trans s1
    obtain ⟨m, rfl, m1, m2⟩ : ∃ m : Nat, v = iN m ∧ 1 ≤ m ∧ m ≤ 3 := by
      have hv2 : v = .int 2 ∨ v = .int 2 ∨ v = .int 3 ∨ v = .int 1 := by simpa using hv
      rcases hv2 with rfl | rfl | rfl | rfl
      · exact ⟨2, rfl, by decide, by decide⟩
      · exact ⟨2, rfl, by decide, by decide⟩
      · exact ⟨3, rfl, by decide, by decide⟩
      · exact ⟨1, rfl, by decide, by decide⟩
    refine ⟨(by decide : 0 ≤ sizeLine), fun pw nw => ?_⟩
    obtain ⟨nwa, nwl⟩ := hs1.apart nw
    have n0w : H pw = none := s01.free nw nwa
    refine ⟨_, rfl, _, rfl, _, _, rfl, rfl, a, l, _, rfl, hs1.beside nwa nwl, by decide, by decide, fun d H2 hd s2 hs2 => ?_⟩
    have hd5 : d ≤ 5 := by omega
    have s02 : But a H H2 := (But.at s01 n0w).trans s2
    refine ⟨d, rfl, by omega, by omega, for_it walk_range
      (fun i σ H' => ∃ (ws : List Str) (y5 y6 : Option V), σ = [some (.ref a), some (.int 5), some (.int 3), some (iN m), some (.ref pw), y5, y6] ∧ But a H H' ∧ StreamAt H' a l ∧ H' pw = some (.lst (ws.map V.str)) ∧
        ws.length ≤ i ∧ (∀ z ∈ ws, 1 ≤ z.length ∧ z.length ≤ 3 ∧ Abc z) ∧ ws.Nodup)
      ⟨[], none, none, rfl, s02, hs2, s2 _ _ upd_same nwa, Nat.le_refl _, fun z hz => by simp at hz, List.nodup_nil⟩ (fun _ _ _ _ _ => trivial) (fun i x σ H3 H4 hi hP hY => ?_) (fun σ H3 hP => ?_)⟩
    · obtain ⟨ws, y5, y6, rfl, s3, hs3, ew, hl, hw, hn⟩ := hP
      obtain ⟨rfl, -⟩ := hY
      have hwl : ws.length ≤ 5 := by
        have hi2 : i < d := by omega
        omega
      refine ⟨_, rfl, _, rfl, _, rfl, a, l, 1, 3, m, rfl, hs3, by decide, by decide, m1, m2, fun z H5 z1 z2 z3 s5 hs5 => ?_⟩
      have ew5 : H5 pw = some (.lst (ws.map V.str)) := s5 _ _ ew nwa
      have s05 := s3.trans s5
      refine ⟨_, rfl, .inl ⟨rfl, _, .inl (.inl ew5)⟩, ?_⟩
      refine ⟨_, rfl, _, rfl, pw, _, rfl, .inl (.inl (.inl ew5)), rfl, flat_strs ws, _, rfl, ?_⟩
      show if (!inV (.str z) (ws.map V.str)) = true then _ else _
      rw [inV_strs]
      by_cases hz : z ∈ ws
      · rw [decide_eq_true hz]
        refine iteF ⟨(by decide : 0 ≤ sizeLine), fun p1 n1 => ?_⟩
        obtain ⟨n1a, n1l⟩ := hs5.apart n1
        have n01 := s05.free n1 n1a
        have hne : pw ≠ p1 := ne_of_none ew5 n1
        refine ⟨pw, p1, _, _, rfl, rfl, by rw [upd_ne hne]; exact ew5, upd_same, ?_, ?_⟩
        · rw [List.length_map]
          exact Nat.le_of_lt (small1000 (by show ws.length + 0 ≤ 1000; omega))
        · refine ⟨ws, _, _, rfl, But.at (But.at s05 n01) n0w, (hs5.beside n1a n1l).beside nwa nwl, ?_, by omega, hw, hn⟩
          rw [upd_same, List.append_nil]
      · rw [decide_eq_false hz]
        refine iteT ⟨_, rfl, (by decide : 1 ≤ sizeLine), fun p1 n1 => ?_⟩
        obtain ⟨n1a, n1l⟩ := hs5.apart n1
        have n01 := s05.free n1 n1a
        have hne : pw ≠ p1 := ne_of_none ew5 n1
        refine ⟨pw, p1, _, _, rfl, rfl, by rw [upd_ne hne]; exact ew5, upd_same, ?_, ?_⟩
        · rw [List.length_map]
          exact Nat.le_of_lt (small1000 (by show ws.length + 1 ≤ 1000; omega))
        · refine ⟨ws ++ [z], _, _, rfl, But.at (But.at s05 n01) n0w, (hs5.beside n1a n1l).beside nwa nwl, ?_, ?_, fun u hu => ?_, ?_⟩
          · rw [upd_same, List.map_append]
            rfl
          · rw [List.length_append]
            show ws.length + 1 ≤ i + 1
            omega
          · rcases List.mem_append.mp hu with e | e
            · exact hw u e
            · have e2 : u = z := by simpa using e
              rw [e2]
              exact ⟨z1, z2, z3⟩
          · refine List.nodup_append.mpr ⟨hn, by simp, fun u hu v hv e => ?_⟩
            have e2 : v = z := by simpa using hv
            rw [e, e2] at hu
            exact hz hu
    · obtain ⟨ws, y5, y6, rfl, s3, hs3, ew, hl, hw, hn⟩ := hP
      refine ⟨_, rfl, pw, _, rfl, .inl ⟨.inl (.inl ew), fun c nc => ?_⟩⟩
      obtain ⟨nca, ncl⟩ := hs3.apart nc
      exact q c ws _ (s3.trans (But.of (same_new nc))) (hs3.beside nca ncl) upd_same ⟨by omega, hw, hn⟩ nca (s3.free nc nca)

/-! ### _law_message -/
abbrev nLMsg : List Str := ["_law_stream_here", "_law_code_here", "_law_most", "_law_string_here", "_law_turn", "_law_word"]
theorem scLMsg : FnScope nLMsg ["_law_stream_here", "_law_code_here", "_law_most"] (defScope sLMessage) := ⟨rfl, rfl, rfl, by decide +kernel, rfl, by decide +kernel, by decide +kernel⟩
def spLMsg : Sp := fun vs H Q _ => ∃ (a l c : Addr) (ws : List Str), vs = [.ref a, .ref c, .int 10] ∧ StreamAt H a l ∧ CodeAt H c ws ∧ CodeOk ws ∧ c ≠ a ∧
  ∀ (z : Str) H', z.length ≤ 10 → Abc z → But a H H' → StreamAt H' a l → Q (.str z) H'
theorem cs_app (x y : Str) : cs (x ++ y) = cs x ++ cs y := Array.toList_append
theorem abc_app {x y : Str} (hx : Abc x) (hy : Abc y) : Abc (x ++ y) := fun c hc => by
  have hc2 : c ∈ cs (x ++ y) := hc
  rw [cs_app] at hc2
  rcases List.mem_append.mp hc2 with e | e
  · exact hx c e
  · exact hy c e
theorem len_app (x y : Str) : (x ++ y).length = x.length + y.length := by
  rw [← cs_len, cs_app, List.length_append, cs_len, cs_len]
theorem has_lmsg (T : Txt K mg) (D : DefAt K mg "_law_message" sLMessage) (GN : Has P w K mg base CX0 1 "_law_next" ["_law_stream_here", "_law_many"] spNext) (GP : Has P w K mg base CX0 2 "_law_pick" ["_law_stream_here", "_law_rows"] spPick) :
    Has P w K mg base CX0 3 "_law_message" ["_law_stream_here", "_law_code_here", "_law_most"] spLMsg := by
  obtain ⟨f, fd, g, F⟩ := D
  refine ⟨f, fd, g, F.kp, F.binds (fun _ _ _ _ _ _ us hl => match us, hl with | [_, _, _], _ => rfl), F.ok scLMsg (fun vs H Q E h => ?_) (fun cdv A outer s H vs Q E hr h => ?_)⟩
  · obtain ⟨a, l, c, ws, rfl, _⟩ := h
    rfl
  · obtain ⟨a, l, c, ws, rfl, hs, hc, ok, hca, q⟩ := h
    have hr1 : Room 1 _ := hr.mono (by decide)
    refine ⟨_, pss_cons (ps_set (i := 3) scLMsg.nd rfl (Or.inl rfl) pe_str)
      (pss_cons (ps_for PassesOwn.never rfl (pi_range1 (by rfl) T.rng (pa_cons (pe_has GN hr1 (by rfl) (pa_cons (pv 0) (pa_cons pe_int pa_nil))) pa_nil)) (pg_name (i := 4) scLMsg.nd rfl (Or.inl rfl))
        (pss_one (ps_if (pt_truth (pv 1) (by intro _; rfl))
          (pss_cons (ps_set (i := 5) scLMsg.nd rfl (Or.inl rfl) (pe_has GP hr (by rfl) (pa_cons (pv 0) (pa_cons (pv 1) pa_nil))))
          (pss_one (ps_set (i := 3) scLMsg.nd rfl (Or.inl rfl) (pe_op op_add_str (pv 3) (pe_op op_mul01 (pv 5) (pe_callTy call_int1 (by rfl) T.int boot_int (pa_cons
            (pe_cmpR op_le (pe_callB call_len_str (by rfl) T.len boot_len (pa_cons (pe_op op_add_str (pv 3) (pv 5)) pa_nil)) (pv 2) (nomark _)) pa_nil))))))) pss_nil)))
      (pss_one (ps_ret (pv 3)))), ?_⟩
    refine ⟨_, rfl, a, l, _, rfl, hs, by decide, by decide, fun d H1 hd s1 hs1 => ?_⟩
    refine ⟨d, rfl, by omega, by omega, for_it walk_range
      (fun i σ H' => ∃ (z : Str) (y4 y5 : Option V), σ = [some (.ref a), some (.ref c), some (.int 10), some (.str z), y4, y5] ∧ z.length ≤ 10 ∧ Abc z ∧ But a H H' ∧ StreamAt H' a l)
      ⟨Str.ofString "", none, none, rfl, by decide +kernel, fun c hc => ?_, s1, hs1⟩ (fun _ _ _ _ _ => trivial) (fun i x σ H3 H4 hi hP hY => ?_) (fun σ H3 hP => ?_)⟩
    · have e : (Str.ofString "").cps.toList = [] := by decide +kernel
      rw [e] at hc
      cases hc
    · obtain ⟨z, y4, y5, rfl, hz, hza, s3, hs3⟩ := hP
      obtain ⟨rfl, -⟩ := hY
      have hc3 : CodeAt H4 c ws := s3 _ _ hc hca
      refine ⟨_, rfl, _, .inr (.inl ⟨_, .inl (.inl hc3), rfl⟩), ?_⟩
      cases ws with
      | nil => exact iteF ⟨z, _, _, rfl, hz, hza, s3, hs3⟩
      | cons w0 ws0 =>
        refine iteT ⟨_, rfl, _, rfl, a, l, c, _, rfl, hs3, hca, .inr hc3, ?_, ?_, fun v H5 hv s5 hs5 => ?_⟩
        · rw [List.length_map, List.length_cons]
          omega
        · have := ok.len
          rw [List.length_map]
          omega
        · obtain ⟨u, hu, rfl⟩ := List.mem_map.mp hv
          obtain ⟨u1, u2, u3⟩ := ok.wd u hu
          have s05 := s3.trans s5
          have ul : u.length ≤ sizeLine := Nat.le_of_lt (small1000 (by omega))
          have zu : z.length + u.length ≤ sizeLine := Nat.le_of_lt (small1000 (by omega))
          refine ⟨_, rfl, _, rfl, _, rfl, _, rfl, _, _, rfl, rfl, zu, _, rfl, ?_, _, rfl, _, _, rfl, rfl, .inr ⟨_, rfl, ?_⟩⟩
          · rw [len_app]
            exact zu
          · rw [len_app]
            by_cases hb : z.length + u.length ≤ 10
            · rw [decide_eq_true (by omega : ((z.length + u.length : Nat) : Int) ≤ 10)]
              exact ⟨_, _, rfl, rfl, .inr ⟨rfl, ul, _, _, rfl, rfl, zu, _, _, _, rfl, by rw [len_app]; exact hb, abc_app hza u3, s05, hs5⟩⟩
            · rw [decide_eq_false (by omega : ¬ ((z.length + u.length : Nat) : Int) ≤ 10)]
              have e0 : z ++ Str.empty = z := cs_inj (by rw [cs_app]; exact List.append_nil _)
              refine ⟨_, _, rfl, rfl, .inl ⟨rfl, _, _, rfl, rfl, Nat.le_of_lt (small1000 (by show z.length + 0 ≤ 1000; omega)), z, some x, some (.str u), ?_, hz, hza, s05, hs5⟩⟩
              show [_, _, _, some (V.str (z ++ Str.empty)), _, _] = _
              rw [e0]
    · obtain ⟨z, y4, y5, rfl, hz, hza, s3, hs3⟩ := hP
      exact ⟨_, rfl, q z _ hz hza s3 hs3⟩
end
end K02
/-! the law's own listing, the places of a parse -/
namespace K02
open PySem PySem.Spec PyProof.Rows L2
/-! ### mathematics -/
def rowTo (C : List Wd) (t : Wd) (a : Nat) (r : Nat → List (List Nat)) (n : Nat) : List (List Nat) :=
  (C.zipIdx.take n).flatMap fun p => if p.1.length ≤ a ∧ (t.take a).drop (a - p.1.length) = p.1 then (r (a - p.1.length)).map (· ++ [p.2]) else []
theorem rowTo_zero {C : List Wd} {t : Wd} {a : Nat} {r : Nat → List (List Nat)} : rowTo C t a r 0 = [] := by
  unfold rowTo
  rw [List.take_zero]
  rfl
theorem rowTo_succ {C : List Wd} {t : Wd} {a : Nat} {r : Nat → List (List Nat)} {n : Nat} {w : Wd} (h : C[n]? = some w) :
    rowTo C t a r (n + 1) = rowTo C t a r n ++ (if w.length ≤ a ∧ (t.take a).drop (a - w.length) = w then (r (a - w.length)).map (· ++ [n]) else []) := by
  unfold rowTo
  have e : C.zipIdx[n]? = some (w, n) := by
    rw [List.getElem?_zipIdx, h]
    simp
  rw [List.take_add_one, e, Option.toList_some, List.flatMap_append]
  simp
theorem rowTo_end {C : List Wd} {t : Wd} {a : Nat} {r : Nat → List (List Nat)} : rowTo C t a r C.length = rowOf C t a r := by
  unfold rowTo rowOf
  rw [show C.zipIdx.take C.length = C.zipIdx from List.take_of_length_le (by rw [List.length_zipIdx]; exact Nat.le_refl _)]
theorem rowTo_le {C : List Wd} {t : Wd} {a : Nat} {r : Nat → List (List Nat)} (n : Nat) : (rowTo C t a r n).length ≤ (rowOf C t a r).length := by
  have e : rowOf C t a r = rowTo C t a r n ++ (C.zipIdx.drop n).flatMap fun p => if p.1.length ≤ a ∧ (t.take a).drop (a - p.1.length) = p.1 then (r (a - p.1.length)).map (· ++ [p.2]) else [] := by
    unfold rowTo rowOf
    rw [← List.flatMap_append, List.take_append_drop]
  rw [e, List.length_append]
  omega
theorem IsRow.len {C : List Wd} (hC : PosW C) {t : Wd} {k : Nat} {l : List (List Nat)} (h : IsRow C t k l) : l.length = cnt C (t.take k) :=
  ((List.perm_ext_iff_of_nodup h.1 (ps_nodup hC (t.take k))).mpr fun p => (h.2 p).trans (mem_ps hC p (t.take k)).symm).length_eq
theorem IsRow.empty {C : List Wd} (hC : PosW C) {t : Wd} {k : Nat} {l : List (List Nat)} (h : IsRow C t k l) (h2 : 2 ≤ l.length) : ∀ p ∈ l, p ≠ [] := fun p hp e => by
  rw [h.len hC] at h2
  have e1 := ((h.2 p).mp hp).2
  rw [e, jn_nil] at e1
  rw [← e1, cnt_nil] at h2
  omega
/-- the places of a parse -/
def endsL (C : List Wd) (r : List Nat) : List Nat := (List.range (r.length + 1)).map fun j => (jn C (r.take j)).length
theorem mem_endsL {C : List Wd} {r : List Nat} {x : Nat} : x ∈ endsL C r ↔ x ∈ endsP C 0 r := by
  rw [mem_ends]
  unfold endsL
  rw [List.mem_map]
  constructor
  · rintro ⟨j, hj, e⟩
    exact ⟨r.take j, r.drop j, (List.take_append_drop j r).symm, by rw [Nat.zero_add]; exact e.symm⟩
  · rintro ⟨p1, p2, e, hx⟩
    refine ⟨p1.length, List.mem_range.mpr ?_, ?_⟩
    · rw [e, List.length_append]
      omega
    · rw [e, List.take_left', hx, Nat.zero_add]
      rfl

/-! ### lists of tuples -/
/-- at r: the list of the tuples M (with their places) -/
def RowAt (H : Hp) (r : Addr) (M : List (Addr × List Nat)) : Prop := H r = some (.lst (M.map fun x => V.ref x.1)) ∧ ∀ x ∈ M, NumAt H x.1 x.2
theorem RowAt.same {H H' : Hp} {r : Addr} {M : List (Addr × List Nat)} (h : RowAt H r M) (s : Same H H') : RowAt H' r M := ⟨s _ _ h.1, fun x hx => (h.2 x hx).same s⟩
theorem cut_back (z : Str) (a n : Nat) (h : a ≤ z.length) (hn : n ≤ a) : cs (cutS z (some ((a : Int) - (n : Int))) (some (a : Int))) = ((cs z).take a).drop (a - n) := by
  unfold cutS
  have e : ((a : Int) - (n : Int)) = ((a - n : Nat) : Int) := by omega
  rw [e, HT.sIx_nat, HT.sIx_nat, Nat.min_eq_left (by omega : a - n ≤ z.length), Nat.min_eq_left h]
  show ((cs z).drop (a - n)).take (a - (a - n)) = _
  rw [List.drop_take]
/-- the numbers of a tuple that stands at v -/
def numV : V → Nat
  | .int i => i.toNat
  | _ => 0
def numsO : Option HO → List Nat
  | some (.tup vs) => vs.map numV
  | _ => []
def numsOf (H : Hp) : V → List Nat
  | .ref t => numsO (H t)
  | _ => []
theorem numsOf_at {H : Hp} {t : Addr} {p : List Nat} (h : NumAt H t p) : numsOf H (.ref t) = p := by
  show numsO (H t) = p
  have h2 : H t = some (.tup (pV p)) := h
  rw [h2]
  show (List.map numV (List.map _ p)) = p
  rw [List.map_map]
  conv => rhs; rw [← List.map_id p]
  exact List.map_congr_left fun n _ => Int.toNat_natCast n
section
variable {P : Program} {w : World} {K : PySem.W.Frag} {mg : Str → Option Value} {base : Heap}
/-! ### _law_ends -/
abbrev nLEnds : List Str := ["_law_code_here", "_law_parse", "_law_found", "_law_number"]
theorem scLEnds : FnScope nLEnds ["_law_code_here", "_law_parse"] (defScope sLEnds) := ⟨rfl, rfl, rfl, by decide +kernel, rfl, by decide +kernel, by decide +kernel⟩
def spLEnds : Sp := fun vs H Q _ => ∃ (c : Addr) (ws : List Str) (p : Addr) (r : List Nat), vs = [.ref c, .ref p] ∧ CodeAt H c ws ∧ CodeOk ws ∧ NumAt H p r ∧ ValP (cd ws) r ∧ r.length ≤ 100 ∧
  ∀ H' q, Same H H' → H q = none → H' q = some (.lst ((endsL (cd ws) r).map iN)) → Q (.ref q) H'
theorem has_lends (T : Txt K mg) (D : DefAt K mg "_law_ends" sLEnds) : Has P w K mg base CX0 1 "_law_ends" ["_law_code_here", "_law_parse"] spLEnds := by
  obtain ⟨f, fd, g, F⟩ := D
  refine ⟨f, fd, g, F.kp, F.binds (fun _ _ _ _ _ _ us hl => match us, hl with | [_, _], _ => rfl), F.ok scLEnds (fun vs H Q E h => ?_) (fun cdv A outer s H vs Q E hr h => ?_)⟩
  · obtain ⟨c, ws, p, r, rfl, _⟩ := h
    rfl
  · obtain ⟨c, ws, p, r, rfl, hc, ok, hp, hv, hl, q⟩ := h
    refine ⟨_, pss_cons (ps_set (i := 2) scLEnds.nd rfl (Or.inl rfl) (pe_lst (pa_cons pe_int pa_nil)))
      (pss_cons (ps_for PassesOwn.never rfl (pi_tup (pv 1)) (pg_name (i := 3) scLEnds.nd rfl (Or.inl rfl))
        (pss_one (ps_expr (pe_bm PySem.F.plainAttrs_list PySem.F.slot_list_append PySem.F.type_list_append mt_append (pv 2) (pa_cons
          (pe_op op_add (pe_ix ix_list (pv 2) (pe_un un_neg pe_int) (fun _ _ => rfl)) (pe_callB call_len_str (by rfl) T.len boot_len (pa_cons (pe_ix ix_tup (pv 0) (pv 3) (fun _ _ => rfl)) pa_nil))) pa_nil)))))
      (pss_one (ps_ret (pv 2)))), ?_⟩
    refine ⟨(by decide : 1 ≤ sizeLine), fun F nF => ?_⟩
    have hp1 := hp.same (same_new (o := .lst [.int 0]) nF)
    refine ⟨_, rfl, p, rfl, ⟨_, .inl (.inl hp1)⟩, for_it (walk_tup (xs := pV r))
      (fun i σ H' => ∃ y3, σ = [some (.ref c), some (.ref p), some (.ref F), y3] ∧ Same H H' ∧ H' F = some (.lst (((List.range (i + 1)).map fun j => (jn (cd ws) (r.take j)).length).map iN)))
      ⟨none, rfl, same_new nF, upd_same⟩ (fun i σ H' _ h => by obtain ⟨_, _, s4, _⟩ := h; exact .inl (.inl (hp.same s4))) (fun i x σ H4 H5 hi hP hY => ?_) (fun σ H4 hP => ?_)⟩
    · obtain ⟨y3, rfl, s4, e4⟩ := hP
      obtain ⟨rfl, hx⟩ := hY
      obtain ⟨n, hn, rfl⟩ := pV_at hx
      obtain ⟨v, hv0⟩ := val_at hv hn
      have hvl : v.length ≤ 3 := (ok.wd v (List.mem_of_getElem? hv0)).2.1
      have hil : i < r.length := (List.getElem?_eq_some_iff.mp hn).1
      have hlast : atI (((List.range (i + 1)).map fun j => (jn (cd ws) (r.take j)).length).map iN) (-1) = some (iN (jn (cd ws) (r.take i)).length) := by
        rw [List.range_succ, List.map_append, List.map_append]
        exact atI_last _ _
      refine ⟨_, rfl, .inl ⟨rfl, _, .inl (.inl e4)⟩, _, rfl, _, rfl, F, _, _, _, rfl, rfl, .inl (.inl e4), hlast, ?_⟩
      refine ⟨_, rfl, _, rfl, c, _, _, _, rfl, rfl, .inl (.inl (hc.same s4)), atI_nat (j := n) (v := .str v) (by rw [List.getElem?_map, hv0]; rfl), v, rfl, Nat.le_of_lt (small1000 (by omega)), _, _, rfl, rfl, F, _, _, rfl, rfl, e4, ?_, ?_⟩
      · rw [List.length_map, List.length_map, List.length_range]
        exact small1000 (by omega)
      · refine ⟨some (iN n), rfl, same_at s4 nF, ?_⟩
        have e5 : jn (cd ws) (r.take (i + 1)) = jn (cd ws) (r.take i) ++ cs v := by
          rw [List.take_add_one, hn, Option.toList_some, jn_append, jn_cons, jn_nil, List.append_nil, getD_of (cd_get hv0)]
        rw [upd_same, List.range_succ (n := i + 1), List.map_append, List.map_append]
        refine congrArg (fun x => some (HO.lst (_ ++ [x]))) ?_
        show V.int _ = V.int ((jn (cd ws) (r.take (i + 1))).length : Nat)
        rw [e5, List.length_append, cs_len]
        rfl
    · obtain ⟨y3, rfl, s4, e4⟩ := hP
      rw [List.length_map] at e4
      exact ⟨_, rfl, q _ F s4 nF e4⟩
end
end K02
/-! the law's own listing -/
namespace K02
open PySem PySem.Spec PyProof.Rows L2
theorem NumAt.beside {H : Hp} {p D : Addr} {q : List Nat} {xs ys : List V} (h : NumAt H p q) (hD : H D = some (.lst xs)) : NumAt (upd H D (.lst ys)) p q := by
  have n : p ≠ D := ne_of h hD (by intro z; cases z)
  unfold NumAt
  rw [upd_ne n]
  exact h
theorem RowAt.beside {H : Hp} {r D : Addr} {M : List (Addr × List Nat)} {xs ys : List V} (h : RowAt H r M) (hD : H D = some (.lst xs)) (n : r ≠ D) : RowAt (upd H D (.lst ys)) r M :=
  ⟨by rw [upd_ne n]; exact h.1, fun x hx => (h.2 x hx).beside hD⟩
theorem CodeOk.cnt_line {ws : List Str} (ok : CodeOk ws) {t : Wd} (h : t.length ≤ 10) : cnt (cd ws) t < sizeLine := by
  have q := cnt_le ok.pos (b := 5) (by rw [List.length_map]; exact ok.len) (by decide) 10 t h
  exact Nat.lt_of_le_of_lt q (by decide)
section
variable {P : Program} {w : World} {K : PySem.W.Frag} {mg : Str → Option Value} {base : Heap}
abbrev nLPar : List Str := ["_law_code_here", "_law_string_here", "_law_rows", "_law_at", "_law_found", "_law_number", "_law_size", "_law_parse"]
theorem scLPar : FnScope nLPar ["_law_code_here", "_law_string_here"] (defScope sLParses) := ⟨rfl, rfl, rfl, by decide +kernel, rfl, by decide +kernel, by decide +kernel⟩
def spLPar : Sp := fun vs H Q _ => ∃ (c : Addr) (ws : List Str) (z : Str), vs = [.ref c, .str z] ∧ CodeAt H c ws ∧ CodeOk ws ∧ z.length ≤ 10 ∧
  ∀ H' p M, Same H H' → H p = none → RowAt H' p M → M.map Prod.snd = ps (cd ws) (cs z) → Q (.ref p) H'
theorem has_lpar (T : Txt K mg) (D : DefAt K mg "_law_parses" sLParses) : Has P w K mg base CX0 1 "_law_parses" ["_law_code_here", "_law_string_here"] spLPar := by
  obtain ⟨f, fd, g, F⟩ := D
  refine ⟨f, fd, g, F.kp, F.binds (fun _ _ _ _ _ _ us hl => match us, hl with | [_, _], _ => rfl), F.ok scLPar (fun vs H Q E h => ?_) (fun cdv A outer s H vs Q E hr h => ?_)⟩
  · obtain ⟨c, ws, z, rfl, _⟩ := h
    rfl
  · obtain ⟨c, ws, z, rfl, hc, ok, hz, q⟩ := h
    refine ⟨_, pss_cons (ps_set (i := 2) scLPar.nd rfl (Or.inl rfl) (pe_lst (pa_cons (pe_lst (pa_cons (pe_tup pa_nil) pa_nil)) pa_nil)))
      (pss_cons (ps_for PassesOwn.never rfl (pi_range2 (by rfl) T.rng (pa_cons pe_int (pa_cons (pe_op op_add (pe_callB call_len_str (by rfl) T.len boot_len (pa_cons (pv 1) pa_nil)) pe_int) pa_nil))) (pg_name (i := 3) scLPar.nd rfl (Or.inl rfl))
        (pss_cons (ps_set (i := 4) scLPar.nd rfl (Or.inl rfl) (pe_lst pa_nil))
        (pss_cons (ps_for PassesOwn.never rfl (pi_range1 (by rfl) T.rng (pa_cons (pe_callB cr_len (by rfl) T.len boot_len (pa_cons (pv 0) pa_nil)) pa_nil)) (pg_name (i := 5) scLPar.nd rfl (Or.inr rfl))
          (pss_cons (ps_set (i := 6) scLPar.nd rfl (Or.inl rfl) (pe_callB call_len_str (by rfl) T.len boot_len (pa_cons (pe_ix ix_tup (pv 0) (pv 5) (fun _ _ => rfl)) pa_nil)))
          (pss_one (ps_if (PW.pt (pw_and (pt_cmpR op_le (pv 6) (pv 3) (nomark _)) (pw_and1 (pt_cmpR op_eq (pe_slice sl_str (pv 1) (po_some (pe_op op_sub (pv 3) (pv 6))) (po_some (pv 3))) (pe_ix ix_tup (pv 0) (pv 5) (fun _ _ => rfl)) (nomark _)))))
            (pss_one (ps_expr (pe_bm PySem.F.plainAttrs_list PySem.F.slot_list_extend PySem.F.type_list_extend mt_extend (pv 4) (pa_cons
              (pe_lc (own := [("_law_parse", 7)]) (g := gName 7) (by rfl) scLPar.nd (pi_list (pe_ix ix_list (pv 2) (pe_op op_sub (pv 3) (pv 6)) (fun _ _ => rfl))) (blkOk_by (own := [("_law_parse", 7)]) (N := nLPar) (sc := defScope sLParses) (by decide +kernel))
                (fun _ _ _ _ _ => pg_name (i := 7) scLPar.nd rfl (Or.inl rfl)) (fun _ _ _ _ _ => pts_nil)
                (fun _ _ _ _ _ => pe_op (r := rCatA K) (by exact op_catA) (pv 7) (pe_tup (pa_cons (pv 5) pa_nil)))) pa_nil)))) pss_nil))))
        (pss_one (ps_expr (pe_bm PySem.F.plainAttrs_list PySem.F.slot_list_append PySem.F.type_list_append mt_append (pv 2) (pa_cons (pv 4) pa_nil)))))))
      (pss_one (ps_ret (pe_callB cr_sortN (by rfl) T.srt boot_sorted (pa_cons (pe_ix ix_list (pv 2) (pe_callB call_len_str (by rfl) T.len boot_len (pa_cons (pv 1) pa_nil)) (fun _ _ => rfl)) pa_nil))))), ?_⟩
    have hC := ok.pos
    have zl : z.length ≤ sizeLine := Nat.le_of_lt (small1000 (by omega))
    have csl : (cs z).length = z.length := cs_len z
    -- the first row
    refine ⟨(by decide : 0 ≤ sizeLine), fun e0 ne0 => ⟨(by decide : 1 ≤ sizeLine), fun r0 nr0 => ⟨(by decide : 1 ≤ sizeLine), fun R nR => ?_⟩⟩⟩
    have s1 : Same H (upd (upd H e0 (.tup [])) r0 (.lst [.ref e0])) := (same_new ne0).trans (same_new nr0)
    have hR0 : H R = none := s1.free nR
    have r0R : r0 ≠ R := ne_of_none (show upd (upd H e0 (.tup [])) r0 (.lst [.ref e0]) r0 = some _ from upd_same) nR
    have row0 : RowAt (upd (upd (upd H e0 (.tup [])) r0 (.lst [.ref e0])) R (.lst [.ref r0])) r0 [(e0, [])] := by
      have h1 : RowAt (upd (upd H e0 (.tup [])) r0 (.lst [.ref e0])) r0 [(e0, [])] := by
        refine ⟨upd_same, fun x hx => ?_⟩
        have ex : x = (e0, []) := by simpa using hx
        rw [ex]
        exact (same_new nr0) _ _ upd_same
      exact h1.same (same_new nR)
    refine ⟨_, rfl, z, rfl, zl, _, _, rfl, rfl, 1, (z.length : Int) + 1, rfl, ⟨by omega, by omega, by omega, by omega⟩, for_it walk_range
      (fun i σ H' => ∃ (rs : List (Addr × List (Addr × List Nat))) (y3 y4 y5 y6 : Option V), σ = [some (.ref c), some (.str z), some (.ref R), y3, y4, y5, y6, none] ∧ Same H H' ∧ rs.length = i + 1 ∧ H' R = some (.lst (rs.map fun x => V.ref x.1)) ∧
        ∀ k x, rs[k]? = some x → x.1 ≠ R ∧ RowAt H' x.1 x.2 ∧ IsRow (cd ws) (cs z) k (x.2.map Prod.snd))
      ⟨[(r0, [(e0, [])])], none, none, none, none, rfl, s1.trans (same_new nR), rfl, upd_same, fun k x hx => ?_⟩ (fun _ _ _ _ _ => trivial) (fun i x σ H4 H5 hi hP hY => ?_) (fun σ H4 hP => ?_)⟩
    · cases k with
      | zero =>
        obtain rfl : (r0, [(e0, ([] : List Nat))]) = x := Option.some.inj hx
        exact ⟨r0R, row0, row_zero hC⟩
      | succ k => cases hx
    · -- one place more
      obtain ⟨rs, y3, y4, y5, y6, rfl, s4, hl, eR, hrows⟩ := hP
      obtain ⟨rfl, hx⟩ := hY
      have hiz : i < z.length := by omega
      have ea : x = iN (i + 1) := hx.trans (congrArg V.int (by show (1 : Int) + (i : Int) = _; omega))
      clear hx
      subst ea
      generalize hga : i + 1 = a at *
      have ha1 : 1 ≤ a := by omega
      have haz : a ≤ z.length := by omega
      have hIsRow : ∀ k, k < a → IsRow (cd ws) (cs z) k (((rs.getD k (0, [])).2).map Prod.snd) := fun k hk => by
        have e : rs[k]? = some rs[k] := List.getElem?_eq_getElem (by omega)
        rw [List.getD_eq_getElem?_getD, e]
        exact (hrows k _ e).2.2
      have hstep := row_step hC ha1 (by rw [csl]; exact haz) hIsRow
      have hcnt : (rowOf (cd ws) (cs z) a fun k => ((rs.getD k (0, [])).2).map Prod.snd).length < sizeLine := by
        rw [hstep.len hC]
        exact ok.cnt_line (by rw [List.length_take, csl]; omega)
      have hc5 := hc.same s4
      refine ⟨(by decide : 0 ≤ sizeLine), fun F nF => ?_⟩
      have hF0 := s4.free nF
      refine ⟨_, rfl, _, (ws.map V.str).length, rfl, .inr ⟨_, .inl (.inl (hc5.same (same_new nF))), rfl⟩, ((ws.map V.str).length : Nat), rfl, ?_, ?_, for_it walk_range
        (fun n σ H' => ∃ (M : List (Addr × List Nat)) (y5 y6 : Option V), σ = [some (.ref c), some (.str z), some (.ref R), some (iN a), some (.ref F), y5, y6, none] ∧ Same H5 H' ∧ RowAt H' F M ∧
          M.map Prod.snd = rowTo (cd ws) (cs z) a (fun k => ((rs.getD k (0, [])).2).map Prod.snd) n)
        ⟨[], y5, y6, rfl, same_new nF, ⟨upd_same, fun x hx => by simp at hx⟩, rowTo_zero.symm⟩ (fun _ _ _ _ _ => trivial) (fun n x σ H6 H7 hn hP hY => ?_) (fun σ H6 hP => ?_)⟩
      · have := ok.len
        rw [List.length_map]
        omega
      · have := ok.len
        rw [List.length_map]
        omega
      · -- one word
        obtain ⟨M, y5, y6, rfl, s6, hM, eM⟩ := hP
        obtain ⟨rfl, hx⟩ := hY
        have hnl : n < ws.length := by
          rw [List.length_map] at hn
          omega
        have en : x = iN n := hx.trans (congrArg V.int (by show (0 : Int) + (n : Int) = _; omega))
        clear hx
        subst en
        have hu : ws[n]? = some ws[n] := List.getElem?_eq_getElem hnl
        generalize ws[n] = u at hu
        obtain ⟨w1, w2, w3⟩ := ok.wd u (List.mem_of_getElem? hu)
        have ul : u.length ≤ sizeLine := Nat.le_of_lt (small1000 (by omega))
        have hc7 := hc5.same s6
        have atn : atI (ws.map V.str) (n : Int) = some (.str u) := atI_nat (by rw [List.getElem?_map, hu]; rfl)
        have hsucc := rowTo_succ (t := cs z) (a := a) (r := fun k => ((rs.getD k (0, [])).2).map Prod.snd) (cd_get hu)
        refine ⟨_, rfl, _, rfl, c, _, _, _, rfl, rfl, .inl (.inl hc7), atn, u, rfl, ul, ?_⟩
        refine ⟨_, rfl, _, rfl, _, _, rfl, rfl, _, rfl, ?_⟩
        by_cases hle : u.length ≤ a
        · rw [decide_eq_true (by omega : (u.length : Int) ≤ (a : Int))]
          refine iteT ⟨_, rfl, _, rfl, _, rfl, _, _, rfl, rfl, _, rfl, _, rfl, _, rfl, z, rfl, zl, _, rfl, _, rfl, c, _, _, _, rfl, rfl, .inl (.inl hc7), atn, rfl, _, rfl, ?_⟩
          rw [str_eq_iff, cut_back z a u.length haz hle]
          by_cases m : ((cs z).take a).drop (a - u.length) = cs u
          · rw [decide_eq_true m]
            have hk : a - u.length < rs.length := by omega
            have ex : rs[a - u.length]? = some rs[a - u.length] := List.getElem?_eq_getElem hk
            generalize rs[a - u.length] = x at ex
            obtain ⟨xR, xrow, xis⟩ := hrows _ x ex
            have eget : ((rs.getD (a - u.length) (0, [])).2).map Prod.snd = x.2.map Prod.snd := by rw [List.getD_eq_getElem?_getD, ex]; rfl
            have xlen : x.2.length ≤ sizeLine := by
              have h1 := xis.len hC
              rw [List.length_map] at h1
              rw [h1]
              exact Nat.le_of_lt (ok.cnt_line (by rw [List.length_take, csl]; omega))
            have eR7 : H7 R = some (.lst (rs.map fun x => V.ref x.1)) := s6 _ _ eR
            have xrow7 := xrow.same s6
            refine iteT ⟨_, rfl, .inl ⟨rfl, _, .inl (.inl hM.1)⟩, ?_⟩
            refine ⟨_, rfl, _, rfl, _, rfl, _, _, rfl, rfl, R, _, _, .ref x.1, rfl, rfl, .inl (.inl eR7), at_of (j := a - u.length) (by omega) (by rw [List.getElem?_map, ex]; rfl), x.1, rfl, ⟨_, .inl (.inl xrow7.1)⟩, fun D hD => ?_⟩
            refine lc_it (walk_list (xs := x.2.map fun y => V.ref y.1)) (fun j H8 => Same H7 H8 ∧ ∃ Ms : List (Addr × List Nat), H8 D = some (.lst (Ms.map fun y => V.ref y.1)) ∧ Ms.length = j ∧ (∀ y ∈ Ms, NumAt H8 y.1 y.2) ∧ Ms.map Prod.snd = (x.2.take j).map fun y => y.2 ++ [n])
              ⟨same_new hD, [], upd_same, rfl, fun y hy => by simp at hy, rfl⟩ (fun j H8 _ h => .inl (.inl (h.1 _ _ xrow7.1))) (fun j v H8 H9 hj hP hY => ?_) (fun H8 hP => ?_)
            · obtain ⟨s8, Ms, eD, ml, mn, me⟩ := hP
              obtain ⟨rfl, hv⟩ := hY
              rw [List.length_map] at hj
              have ey : x.2[j]? = some x.2[j] := List.getElem?_eq_getElem hj
              generalize x.2[j] = y at ey
              rw [List.getElem?_map, ey] at hv
              obtain rfl : V.ref y.1 = v := Option.some.inj hv
              have hy : NumAt H9 y.1 y.2 := (xrow7.2 y (List.mem_of_getElem? ey)).same s8
              refine ⟨wipe_set1, ?_⟩
              refine ⟨_, rfl, _, rfl, (by decide : 1 ≤ sizeLine), fun p1 n1 => ?_⟩
              have fin : ∀ pr Hr, Same H9 Hr → NumAt Hr pr (y.2 ++ [n]) → ∃ acc, Hr D = some (.lst acc) ∧ acc.length < sizeLine ∧ Same H7 (upd Hr D (.lst (acc ++ [V.ref pr]))) ∧ ∃ Ms : List (Addr × List Nat), (upd Hr D (.lst (acc ++ [V.ref pr]))) D = some (.lst (Ms.map fun y => V.ref y.1)) ∧ Ms.length = j + 1 ∧
                  (∀ y ∈ Ms, NumAt (upd Hr D (.lst (acc ++ [V.ref pr]))) y.1 y.2) ∧ Ms.map Prod.snd = (x.2.take (j + 1)).map fun y => y.2 ++ [n] := fun pr Hr sr nr => by
                have eDr := sr _ _ eD
                refine ⟨_, eDr, ?_, same_at (s8.trans sr) hD, Ms ++ [(pr, y.2 ++ [n])], ?_, ?_, fun y2 hy2 => ?_, ?_⟩
                · rw [List.length_map, ml]
                  exact Nat.lt_of_lt_of_le hj xlen
                · rw [upd_same, List.map_append]
                  rfl
                · rw [List.length_append, ml]
                  rfl
                · rcases List.mem_append.mp hy2 with e | e
                  · exact ((mn y2 e).same sr).beside eDr
                  · have e2 : y2 = (pr, y.2 ++ [n]) := by simpa using e
                    rw [e2]
                    exact nr.beside eDr
                · rw [List.map_append, me, List.take_add_one, ey, Option.toList_some, List.map_append]
                  rfl
              refine ⟨y.1, p1, _, _, rfl, rfl, .inl (.inl (same_new n1 _ _ hy)), .inl (.inl upd_same), ?_, fun hn0 => ?_, fun _ hn0 => ?_, fun _ _ p2 n2 => ?_⟩
              · have h1 := (xis.2 y.2).mp (List.mem_map.mpr ⟨y, List.mem_of_getElem? ey, rfl⟩)
                have h2 := jn_many hC h1.1
                rw [h1.2, List.length_take, csl] at h2
                rw [List.length_map]
                exact Nat.le_of_lt (small1000 (by show y.2.length + 1 ≤ 1000; omega))
              · have hd0 : y.2 = [] := List.map_eq_nil_iff.mp hn0
                refine fin p1 _ (same_new n1) ?_
                rw [hd0]
                exact upd_same
              · cases hn0
              · refine fin p2 _ ((same_new n1).trans (same_new n2)) ?_
                have e : pV (y.2 ++ [n]) = pV y.2 ++ [iN n] := List.map_append
                unfold NumAt
                rw [upd_same, e]
            · obtain ⟨s8, Ms, eD, ml, mn, me⟩ := hP
              rw [List.length_map] at ml me
              rw [List.take_length] at me
              have hM8 := hM.same s8
              have mm : (M ++ Ms).map Prod.snd = rowTo (cd ws) (cs z) a (fun k => ((rs.getD k (0, [])).2).map Prod.snd) (n + 1) := by
                rw [hsucc, cs_len, if_pos ⟨hle, m⟩, eget, List.map_append, eM, me, List.map_map]
                rfl
              refine ⟨F, D, _, _, rfl, rfl, hM8.1, eD, ?_, M ++ Ms, some (iN n), some (iN u.length), rfl, ?_, ⟨?_, fun y hy => ?_⟩, mm⟩
              · have h1 := congrArg List.length mm
                rw [List.length_map, List.length_append] at h1
                rw [List.length_map, List.length_map, h1]
                exact Nat.le_of_lt (Nat.lt_of_le_of_lt (rowTo_le _) hcnt)
              · exact same_at (s6.trans s8) nF
              · rw [upd_same, List.map_append]
              · rcases List.mem_append.mp hy with e | e
                · exact (hM8.2 y e).beside hM8.1
                · exact (mn y e).beside hM8.1
          · rw [decide_eq_false m]
            refine iteF ⟨M, some (iN n), some (iN u.length), rfl, s6, hM, ?_⟩
            rw [hsucc, cs_len, if_neg (fun h => m h.2), List.append_nil]
            exact eM
        · rw [decide_eq_false (by omega : ¬ (u.length : Int) ≤ (a : Int))]
          refine iteF (iteF ⟨M, some (iN n), some (iN u.length), rfl, s6, hM, ?_⟩)
          rw [hsucc, cs_len, if_neg (fun h => hle h.1), List.append_nil]
          exact eM
      · obtain ⟨M, y5, y6, rfl, s6, hM, eM⟩ := hP
        have eR6 : H6 R = some (.lst (rs.map fun x => V.ref x.1)) := s6 _ _ eR
        have eM2 : M.map Prod.snd = rowOf (cd ws) (cs z) a fun k => ((rs.getD k (0, [])).2).map Prod.snd := by
          rw [eM]
          have e : ((ws.map V.str).length : Int).toNat = (cd ws).length := by
            rw [List.length_map, List.length_map]
            exact Int.toNat_natCast _
          rw [e, rowTo_end]
        have FR : F ≠ R := Ne.symm (ne_of_none eR nF)
        refine ⟨_, rfl, .inl ⟨rfl, _, .inl (.inl eR6)⟩, _, rfl, R, _, _, rfl, rfl, eR6, ?_, rs ++ [(F, M)], some (iN a), some (.ref F), y5, y6, rfl, same_at (s4.trans s6) hR0, ?_, ?_, fun k x hx => ?_⟩
        · rw [List.length_map, hl]
          exact small1000 (by omega)
        · rw [List.length_append, hl]
          rfl
        · rw [upd_same, List.map_append]
          rfl
        · rcases Nat.lt_or_ge k rs.length with hk | hk
          · rw [List.getElem?_append_left hk] at hx
            obtain ⟨h1, h2, h3⟩ := hrows k x hx
            exact ⟨h1, (h2.same s6).beside eR6 h1, h3⟩
          · rw [List.getElem?_append_right hk] at hx
            have hk0 : k - rs.length = 0 := by
              rcases Nat.eq_zero_or_pos (k - rs.length) with e | e
              · exact e
              · rw [List.getElem?_eq_none (by rw [List.length_singleton]; omega)] at hx
                cases hx
            rw [hk0] at hx
            obtain rfl : (F, M) = x := Option.some.inj hx
            have hka : k = a := by omega
            refine ⟨FR, hM.beside eR6 FR, ?_⟩
            rw [hka]
            show IsRow _ _ _ (M.map Prod.snd)
            rw [eM2]
            exact hstep
    · -- the end
      obtain ⟨rs, y3, y4, y5, y6, rfl, s4, hl, eR, hrows⟩ := hP
      have en : ((z.length : Int) + 1 - 1).toNat = z.length := by omega
      rw [en] at hl
      have ex : rs[z.length]? = some rs[z.length] := List.getElem?_eq_getElem (by omega)
      generalize rs[z.length] = x at ex
      obtain ⟨h1, h2, h3⟩ := hrows _ x ex
      refine ⟨_, rfl, _, rfl, z, rfl, zl, R, _, _, .ref x.1, rfl, rfl, .inl (.inl eR), atI_nat (j := z.length) (by rw [List.getElem?_map, ex]; rfl), ?_⟩
      refine ⟨x.1, _, numsOf H4, rfl, .inl (.inl h2.1), fun v hv => ?_, fun hlen v hv => ?_, fun ys p hs hp np => ?_⟩
      · obtain ⟨y, hy, rfl⟩ := List.mem_map.mp hv
        refine ⟨y.1, rfl, ?_⟩
        rw [numsOf_at (h2.2 y hy)]
        exact h2.2 y hy
      · obtain ⟨y, hy, rfl⟩ := List.mem_map.mp hv
        rw [numsOf_at (h2.2 y hy)]
        rw [List.length_map] at hlen
        exact h3.empty hC (by rw [List.length_map]; exact hlen) y.2 (List.mem_map.mpr ⟨y, hy, rfl⟩)
      · have href : ∀ v ∈ ys, ∃ t, v = V.ref t ∧ NumAt H4 t (numsOf H4 v) := fun v hv => by
          obtain ⟨y, hy, rfl⟩ := List.mem_map.mp (hp.mem_iff.mp hv)
          refine ⟨y.1, rfl, ?_⟩
          rw [numsOf_at (h2.2 y hy)]
          exact h2.2 y hy
        have hnums : (x.2.map fun y => V.ref y.1).map (numsOf H4) = x.2.map Prod.snd := by
          rw [List.map_map]
          exact List.map_congr_left fun y hy => numsOf_at (h2.2 y hy)
        have hperm : (ys.map (numsOf H4)).Perm (x.2.map Prod.snd) := by
          rw [← hnums]
          exact hp.map _
        have hsort : ys.map (numsOf H4) = ps (cd ws) (cs z) := by
          refine sorted_is hC (List.pairwise_map.mpr hs) hperm h3.1 fun r => ?_
          rw [h3.2 r, List.take_of_length_le (by rw [csl]; exact Nat.le_refl _)]
        let adr : V → Addr := fun v => match v with
          | .ref t => t
          | _ => 0
        refine q _ p (ys.map fun v => (adr v, numsOf H4 v)) (s4.trans (same_new np)) (s4.free np) ⟨?_, fun y hy => ?_⟩ ?_
        · rw [upd_same, List.map_map]
          refine congrArg (fun l => some (HO.lst l)) ?_
          conv => lhs; rw [← List.map_id ys]
          refine List.map_congr_left fun v hv => ?_
          obtain ⟨t, rfl, _⟩ := href v hv
          rfl
        · obtain ⟨v, hv, rfl⟩ := List.mem_map.mp hy
          obtain ⟨t, rfl, ht⟩ := href v hv
          exact ht.same (same_new np)
        · rw [List.map_map]
          exact hsort
end
end K02
/-! the law's comparison, the two calls that may raise -/
namespace K02
open PySem PySem.Spec PyProof.Rows L2
/-- a value without parts -/
def flat1 : V → Bool
  | .bl _ => true
  | .int _ => true
  | .str z => decide (z.length ≤ 1000)
  | _ => false
/-- the same data, of at most so many levels -/
def Da (H : Hp) : Nat → V → V → Prop
  | 0, _, _ => False
  | n + 1, v, u => (v = u ∧ flat1 v = true) ∨ ∃ a b xs ys, v = .ref a ∧ u = .ref b ∧ ((H a = some (.tup xs) ∧ H b = some (.tup ys)) ∨ (H a = some (.lst xs) ∧ H b = some (.lst ys))) ∧ xs.length = ys.length ∧ xs.length ≤ 1000 ∧
    ∀ (i : Nat) x y, xs[i]? = some x → ys[i]? = some y → Da H n x y
theorem Da.same {H H' : Hp} (s : Same H H') : ∀ {n : Nat} {v u : V}, Da H n v u → Da H' n v u
  | 0, _, _, h => h
  | n + 1, v, u, h => by
    rcases h with h | ⟨a, b, xs, ys, e1, e2, h1, h2, h3, h4⟩
    · exact .inl h
    · refine .inr ⟨a, b, xs, ys, e1, e2, ?_, h2, h3, fun i x y hx hy => (h4 i x y hx hy).same s⟩
      rcases h1 with ⟨p, q⟩ | ⟨p, q⟩
      · exact .inl ⟨s _ _ p, s _ _ q⟩
      · exact .inr ⟨s _ _ p, s _ _ q⟩
section
variable {P : Program} {w : World} {K : PySem.W.Frag} {mg : Str → Option Value} {base : Heap}
theorem scLIsInt : FnScope ["_law_actual"] ["_law_actual"] (defScope sLIsInt) := ⟨rfl, rfl, rfl, by decide +kernel, rfl, by decide +kernel, by decide +kernel⟩
def spIsInt : Sp := fun vs H Q _ => ∃ i : Int, vs = [.int i] ∧ Q (.bl true) H
theorem has_isInt (T : Txt K mg) (D : DefAt K mg "_law_is_integer" sLIsInt) : Has P w K mg base CX0 1 "_law_is_integer" ["_law_actual"] spIsInt := by
  obtain ⟨f, fd, g, F⟩ := D
  refine ⟨f, fd, g, F.kp, F.binds (fun _ _ _ _ _ _ us hl => match us, hl with | [_], _ => rfl), F.ok scLIsInt (fun vs H Q E h => ?_) (fun cdv A outer s H vs Q E hr h => ?_)⟩
  · obtain ⟨i, rfl, _⟩ := h
    rfl
  · obtain ⟨i, rfl, q⟩ := h
    refine ⟨_, pss_one (ps_ret (pe_and (pe_callB call_isi (by rfl) T.isi boot_isinstance (pa_cons (pv 0) (pa_cons (pe_ty (by rfl) T.int boot_int) pa_nil)))
      (pe_one (pe_not (pe_callB call_isi (by rfl) T.isi boot_isinstance (pa_cons (pv 0) (pa_cons (pe_ty (by rfl) T.bool boot_bool) pa_nil))))))), ?_⟩
    refine ⟨_, rfl, _, _, _, _, true, rfl, .ty "int", .base (.int i), kit_ty (by decide +kernel), true, rfl, iteT ?_⟩
    exact ⟨_, rfl, _, _, _, _, false, rfl, .ty "bool", .base (.int i), kit_ty (by decide +kernel), false, rfl, q⟩

/-! ### _law_equal -/
theorem scLEqual : FnScope ["_law_actual", "_law_due", "_law_at"] ["_law_actual", "_law_due"] (defScope sLEqual) := ⟨rfl, rfl, rfl, by decide +kernel, rfl, by decide +kernel, by decide +kernel⟩
def spEq (n : Nat) : Sp := fun vs H Q _ => ∃ v u : V, vs = [v, u] ∧ Da H n v u ∧ ∀ H', Same H H' → Q (.bl true) H'
theorem has_equal (T : Txt K mg) (D : DefAt K mg "_law_equal" sLEqual) (GI : Has P w K mg base CX0 1 "_law_is_integer" ["_law_actual"] spIsInt) : ∀ n : Nat, Has P w K mg base CX0 (n + 1) "_law_equal" ["_law_actual", "_law_due"] (spEq n)
  | 0 => by
    obtain ⟨f, fd, g, F⟩ := D
    refine ⟨f, fd, g, F.kp, F.binds (fun _ _ _ _ _ _ us hl => match us, hl with | [_, _], _ => rfl), F.ok scLEqual (fun vs H Q E h => ?_) (fun cdv A outer s H vs Q E hr h => ?_)⟩
    · obtain ⟨v, u, rfl, _⟩ := h
      rfl
    · obtain ⟨v, u, rfl, h, _⟩ := h
      exact h.elim
  | n + 1 => by
    have GE := has_equal T D GI n
    obtain ⟨f, fd, g, F⟩ := D
    refine ⟨f, fd, g, F.kp, F.binds (fun _ _ _ _ _ _ us hl => match us, hl with | [_, _], _ => rfl), F.ok scLEqual (fun vs H Q E h => ?_) (fun cdv A outer s H vs Q E hr h => ?_)⟩
    · obtain ⟨v, u, rfl, _⟩ := h
      rfl
    · obtain ⟨v, u, rfl, h, q⟩ := h
      have hr1 : Room 1 _ := hr.mono (by omega)
      refine ⟨_, pss_cons (ps_if (pt_cmpR op_isN (pv 1) pe_non (nomark _)) (pss_one (ps_ret (pe_cmpR op_isN (pv 0) pe_non (nomark _)))) pss_nil)
        (pss_cons (ps_if (pt_val (pe_callB call_isi (by rfl) T.isi boot_isinstance (pa_cons (pv 1) (pa_cons (pe_ty (by rfl) T.bool boot_bool) pa_nil))))
          (pss_one (ps_ret (pe_and (pe_callB call_isi (by rfl) T.isi boot_isinstance (pa_cons (pv 0) (pa_cons (pe_ty (by rfl) T.bool boot_bool) pa_nil))) (pe_one (pe_cmpR op_eq (pv 0) (pv 1) (nomark _)))))) pss_nil)
        (pss_cons (ps_if (pt_val (pe_callB call_isi (by rfl) T.isi boot_isinstance (pa_cons (pv 1) (pa_cons (pe_ty (by rfl) T.int boot_int) pa_nil))))
          (pss_one (ps_ret (pe_and (pe_has GI hr1 (by rfl) (pa_cons (pv 0) pa_nil)) (pe_one (pe_cmpR op_eq (pv 0) (pv 1) (nomark _)))))) pss_nil)
        (pss_cons (ps_if (pt_val (pe_callB call_isi (by rfl) T.isi boot_isinstance (pa_cons (pv 1) (pa_cons (pe_ty (by rfl) T.str boot_str) pa_nil))))
          (pss_one (ps_ret (pe_and (pe_callB call_isi (by rfl) T.isi boot_isinstance (pa_cons (pv 0) (pa_cons (pe_ty (by rfl) T.str boot_str) pa_nil))) (pe_one (pe_cmpR op_eq (pv 0) (pv 1) (nomark _)))))) pss_nil)
        (pss_cons (ps_if (PW.pt (pw_and (pt_val (pe_callB call_isi (by rfl) T.isi boot_isinstance (pa_cons (pv 1) (pa_cons (pe_ty (by rfl) T.tup boot_tuple) pa_nil))))
            (pw_and1 (pt_not (pt_val (pe_callB call_isi (by rfl) T.isi boot_isinstance (pa_cons (pv 0) (pa_cons (pe_ty (by rfl) T.tup boot_tuple) pa_nil)))))))) (pss_one (ps_ret pe_bl)) pss_nil)
        (pss_cons (ps_if (PW.pt (pw_and (pt_val (pe_callB call_isi (by rfl) T.isi boot_isinstance (pa_cons (pv 1) (pa_cons (pe_ty (by rfl) T.lst boot_list) pa_nil))))
            (pw_and1 (pt_not (pt_val (pe_callB call_isi (by rfl) T.isi boot_isinstance (pa_cons (pv 0) (pa_cons (pe_ty (by rfl) T.lst boot_list) pa_nil)))))))) (pss_one (ps_ret pe_bl)) pss_nil)
        (pss_cons (ps_if (pt_cmpR op_ne (pe_callB cr_len (by rfl) T.len boot_len (pa_cons (pv 0) pa_nil)) (pe_callB cr_len (by rfl) T.len boot_len (pa_cons (pv 1) pa_nil)) (nomark _)) (pss_one (ps_ret pe_bl)) pss_nil)
        (pss_one (ps_ret (pe_callB (cr_all rfl) (by rfl) T.all boot_all (pa_cons
          (pe_lc (own := [("_law_at", 2)]) (g := gName 2) (by rfl) scLEqual.nd (pi_range1 (by rfl) T.rng (pa_cons (pe_callB cr_len (by rfl) T.len boot_len (pa_cons (pv 1) pa_nil)) pa_nil))
            (blkOk_by (own := [("_law_at", 2)]) (N := ["_law_actual", "_law_due", "_law_at"]) (sc := defScope sLEqual) (by decide +kernel))
            (fun _ _ _ _ _ => pg_name (i := 2) scLEqual.nd rfl (Or.inl rfl)) (fun _ _ _ _ _ => pts_nil)
            (fun _ _ _ _ _ => pe_has GE hr (by rfl) (pa_cons (pe_ix (r := rIx K) (by exact ix_seq) (pv 0) (pv 2) (fun _ _ => rfl)) (pa_cons (pe_ix (r := rIx K) (by exact ix_seq) (pv 1) (pv 2) (fun _ _ => rfl)) pa_nil)))) pa_nil)))))))))), ?_⟩
      rcases h with ⟨rfl, hf⟩ | ⟨a, b, xs, ys, rfl, rfl, hab, hlen, hl, hel⟩
      · cases v with
        | bl x =>
          refine ⟨_, rfl, rfl, _, rfl, iteF ?_⟩
          refine ⟨_, rfl, _, _, _, _, true, rfl, .ty "bool", .base (.bl x), kit_ty (by decide +kernel), true, rfl, iteT ?_⟩
          refine ⟨_, rfl, _, _, _, _, true, rfl, .ty "bool", .base (.bl x), kit_ty (by decide +kernel), true, rfl, iteT ?_⟩
          refine ⟨_, rfl, _, rfl, rfl, ?_⟩
          rw [decide_eq_true rfl]
          exact q _ (Same.refl _)
        | int x =>
          refine ⟨_, rfl, rfl, _, rfl, iteF ?_⟩
          refine ⟨_, rfl, _, _, _, _, false, rfl, .ty "bool", .base (.int x), kit_ty (by decide +kernel), false, rfl, iteF ?_⟩
          refine ⟨_, rfl, _, _, _, _, true, rfl, .ty "int", .base (.int x), kit_ty (by decide +kernel), true, rfl, iteT ?_⟩
          refine ⟨_, rfl, x, rfl, true, rfl, iteT ?_⟩
          refine ⟨_, rfl, _, rfl, rfl, ?_⟩
          rw [decide_eq_true rfl]
          exact q _ (Same.refl _)
        | str x =>
          refine ⟨_, rfl, rfl, _, rfl, iteF ?_⟩
          refine ⟨_, rfl, _, _, _, _, false, rfl, .ty "bool", .base (.str x), kit_ty (by decide +kernel), false, rfl, iteF ?_⟩
          refine ⟨_, rfl, _, _, _, _, false, rfl, .ty "int", .base (.str x), kit_ty (by decide +kernel), false, rfl, iteF ?_⟩
          refine ⟨_, rfl, _, _, _, _, true, rfl, .ty "str", .base (.str x), kit_ty (by decide +kernel), true, rfl, iteT ?_⟩
          refine ⟨_, rfl, _, _, _, _, true, rfl, .ty "str", .base (.str x), kit_ty (by decide +kernel), true, rfl, iteT ?_⟩
          refine ⟨_, rfl, _, rfl, rfl, ?_⟩
          rw [decide_eq_true rfl]
          exact q _ (Same.refl _)
        | non => cases hf
        | byt x => cases hf
        | flt x => cases hf
        | ref x => cases hf
        | ty x => cases hf
      · rcases hab with ⟨ha, hb⟩ | ⟨ha, hb⟩
        · refine ⟨_, rfl, rfl, _, rfl, iteF ?_⟩
          refine ⟨_, rfl, _, _, _, _, false, rfl, .ty "bool", .base (.tup hb), kit_ty (by decide +kernel), false, rfl, iteF ?_⟩
          refine ⟨_, rfl, _, _, _, _, false, rfl, .ty "int", .base (.tup hb), kit_ty (by decide +kernel), false, rfl, iteF ?_⟩
          refine ⟨_, rfl, _, _, _, _, false, rfl, .ty "str", .base (.tup hb), kit_ty (by decide +kernel), false, rfl, iteF ?_⟩
          refine ⟨_, rfl, _, _, _, _, true, rfl, .ty "tuple", .base (.tup hb), kit_ty (by decide +kernel), true, rfl, iteT ?_⟩
          refine ⟨_, rfl, _, _, _, _, true, rfl, .ty "tuple", .base (.tup ha), kit_ty (by decide +kernel), true, rfl, iteF ?_⟩
          refine ⟨_, rfl, _, _, _, _, false, rfl, .ty "list", .base (.tup hb), kit_ty (by decide +kernel), false, rfl, iteF (iteF ?_)⟩
          refine ⟨_, rfl, _, xs.length, rfl, .inr ⟨_, .inl (.inl ha), rfl⟩, _, rfl, _, ys.length, rfl, .inr ⟨_, .inl (.inl hb), rfl⟩, rfl, _, rfl, ?_⟩
          rw [hlen, decide_eq_true rfl]
          refine iteF ?_
          refine ⟨_, rfl, _, ys.length, rfl, .inr ⟨_, .inl (.inl hb), rfl⟩, (ys.length : Int), rfl, by omega, by omega, fun D hD => lc_map walk_range (fun _ => .bl true) hD ?_ (fun _ _ => trivial) (fun i x H1 H2 R hi s1 y hR => ?_) (fun H1 s1 e1 => ?_)⟩
          · rw [Int.toNat_natCast]
            exact Nat.le_of_lt (small1000 (by omega))
          · obtain ⟨rfl, hx⟩ := y
            rw [Int.toNat_natCast] at hi
            have ex : x = iN i := hx.trans (congrArg V.int (by show (0 : Int) + (i : Int) = _; omega))
            clear hx
            subst ex
            have gx : xs[i]? = some (xs[i]'(by omega)) := List.getElem?_eq_getElem (by omega)
            have gy : ys[i]? = some ys[i] := List.getElem?_eq_getElem hi
            refine ⟨_, rfl, _, rfl, .inr (.inl ⟨a, xs, _, _, rfl, rfl, .inl (.inl (s1 _ _ ha)), atI_nat gx, ?_⟩)⟩
            refine ⟨_, rfl, _, rfl, .inr (.inl ⟨b, ys, _, _, rfl, rfl, .inl (.inl (s1 _ _ hb)), atI_nat gy, ?_⟩)⟩
            exact ⟨_, _, rfl, (hel i _ _ gx gy).same s1, hR⟩
          · refine ⟨D, _, rfl, trues e1, ?_⟩
            rw [trues_all]
            exact q _ s1
        · refine ⟨_, rfl, rfl, _, rfl, iteF ?_⟩
          refine ⟨_, rfl, _, _, _, _, false, rfl, .ty "bool", .base (.lst hb), kit_ty (by decide +kernel), false, rfl, iteF ?_⟩
          refine ⟨_, rfl, _, _, _, _, false, rfl, .ty "int", .base (.lst hb), kit_ty (by decide +kernel), false, rfl, iteF ?_⟩
          refine ⟨_, rfl, _, _, _, _, false, rfl, .ty "str", .base (.lst hb), kit_ty (by decide +kernel), false, rfl, iteF ?_⟩
          refine ⟨_, rfl, _, _, _, _, false, rfl, .ty "tuple", .base (.lst hb), kit_ty (by decide +kernel), false, rfl, iteF (iteF ?_)⟩
          refine ⟨_, rfl, _, _, _, _, true, rfl, .ty "list", .base (.lst hb), kit_ty (by decide +kernel), true, rfl, iteT ?_⟩
          refine ⟨_, rfl, _, _, _, _, true, rfl, .ty "list", .base (.lst ha), kit_ty (by decide +kernel), true, rfl, iteF ?_⟩
          refine ⟨_, rfl, _, xs.length, rfl, .inl ⟨_, .inl (.inl ha), rfl⟩, _, rfl, _, ys.length, rfl, .inl ⟨_, .inl (.inl hb), rfl⟩, rfl, _, rfl, ?_⟩
          rw [hlen, decide_eq_true rfl]
          refine iteF ?_
          refine ⟨_, rfl, _, ys.length, rfl, .inl ⟨_, .inl (.inl hb), rfl⟩, (ys.length : Int), rfl, by omega, by omega, fun D hD => lc_map walk_range (fun _ => .bl true) hD ?_ (fun _ _ => trivial) (fun i x H1 H2 R hi s1 y hR => ?_) (fun H1 s1 e1 => ?_)⟩
          · rw [Int.toNat_natCast]
            exact Nat.le_of_lt (small1000 (by omega))
          · obtain ⟨rfl, hx⟩ := y
            rw [Int.toNat_natCast] at hi
            have ex : x = iN i := hx.trans (congrArg V.int (by show (0 : Int) + (i : Int) = _; omega))
            clear hx
            subst ex
            have gx : xs[i]? = some (xs[i]'(by omega)) := List.getElem?_eq_getElem (by omega)
            have gy : ys[i]? = some ys[i] := List.getElem?_eq_getElem hi
            refine ⟨_, rfl, _, rfl, .inl ⟨a, xs, _, _, rfl, rfl, .inl (.inl (s1 _ _ ha)), atI_nat gx, ?_⟩⟩
            refine ⟨_, rfl, _, rfl, .inl ⟨b, ys, _, _, rfl, rfl, .inl (.inl (s1 _ _ hb)), atI_nat gy, ?_⟩⟩
            exact ⟨_, _, rfl, (hel i _ _ gx gy).same s1, hR⟩
          · refine ⟨D, _, rfl, trues e1, ?_⟩
            rw [trues_all]
            exact q _ s1
end
end K02
/-! the two calls that may raise -/
namespace K02
open PySem PySem.Spec PyProof.Rows L2
section
variable {P : Program} {w : World} {K : PySem.W.Frag} {mg : Str → Option Value} {base : Heap}
theorem scLNth : FnScope ["_law_code_here", "_law_string_here", "_law_index", "problem"] ["_law_code_here", "_law_string_here", "_law_index"] (defScope sLNth) := ⟨rfl, rfl, rfl, by decide +kernel, rfl, by decide +kernel, by decide +kernel⟩
def spLNth : Sp := fun vs H Q _ => ∃ (c : Addr) (ws : List Str) (z : Str) (k : Int), vs = [.ref c, .str z, .int k] ∧ CodeAt H c ws ∧ CodeOk ws ∧ Abc z ∧ z.length ≤ 24 ∧
  (¬ (0 ≤ k ∧ k < ((cnt (cd ws) (cs z) : Nat) : Int))) ∧ (∀ H' p, Same H H' → H' p = some (.lst [.str "index"]) → Q (.ref p) H')
theorem has_lnth {CB fI : Addr} (TB : PySem.BadVX.BadVTxt K mg CB fI) (D : DefAt K mg "_law_nth" sLNth) (GN : Has P w K mg base (L2.CX P w) 5 "nth_parse" ["code", "string", "index"] (spNth CB)) :
    Has P w K mg base CX0 6 "_law_nth" ["_law_code_here", "_law_string_here", "_law_index"] spLNth := by
  obtain ⟨f, fd, g, F⟩ := D
  refine ⟨f, fd, g, F.kp, F.binds (fun _ _ _ _ _ _ us hl => match us, hl with | [_, _, _], _ => rfl), F.ok scLNth (fun vs H Q E h => ?_) (fun cdv A outer s H vs Q E hr h => ?_)⟩
  · obtain ⟨c, ws, z, k, rfl, _⟩ := h
    rfl
  · obtain ⟨c, ws, z, k, rfl, hc, ok, ha, hz, hk, q⟩ := h
    obtain ⟨f2, fd2, g2, k2, b2, F2⟩ := GN
    refine ⟨_, pss_one (ps_try_as (i := 3) (tb := fun W => tRet (tCallS (spNth CB) (WE W) (tCons (tVar 0) (tCons (tVar 1) (tCons (tVar 2) tNil))))) (ts := fun a cls d => tRet (tLst (tCons (tByBadV CB a cls d (tVar 3)) tNil))) (Wout := fun _ _ _ _ => False) rfl rfl scLNth.nd rfl rfl ⟨rfl, by decide, Or.inl TB.gC⟩ takes0
        (fun W pn xe tk _ => pss_one (ps_ret (by exact (pe_callS F2 hr rfl g2 k2 b2 (fun σ => passAt tk σ) (by exact (pa_cons (pv 0) (pa_cons (pv 1) (pa_cons (pv 2) pa_nil))))))))
        (fun a oe cls d pn hz hf => pss_one (ps_ret (pe_lst (pa_cons (by exact (pe_byBadV TB hz hf (pv 3))) pa_nil))))), ?_⟩
    refine ⟨_, rfl, _, rfl, _, rfl, c, ws, z, k, rfl, hc, ok, ha, hz, fun i r e hr1 H' p s1 n1 => ?_, fun _ H' d s1 hd => ?_⟩
    · have hl : i < cnt (cd ws) (cs z) := (List.getElem?_eq_some_iff.mp hr1).1
      exact absurd ⟨by omega, by omega⟩ hk
    · refine ⟨true, TB.te, fun _ a0 na => ?_, fun e => Bool.noConfusion e⟩
      exact ⟨_, rfl, rfl, rfl, d, _, rfl, hd, (by decide : 1 ≤ sizeLine), fun p np => q _ p (s1.trans (same_new np)) upd_same⟩

theorem scLCommon : FnScope ["_law_code_here", "_law_string_here", "problem"] ["_law_code_here", "_law_string_here"] (defScope sLCommon) := ⟨rfl, rfl, rfl, by decide +kernel, rfl, by decide +kernel, by decide +kernel⟩
def spLCommon : Sp := fun vs H Q _ => ∃ (c : Addr) (ws : List Str) (z : Str), vs = [.ref c, .str z] ∧ CodeAt H c ws ∧ CodeOk ws ∧ Abc z ∧ z.length ≤ 24 ∧
  (cnt (cd ws) (cs z) ≠ 0 → ∀ H' p, Same H H' → NumAt H' p (allP (cd ws) (cs z)) → Q (.ref p) H') ∧ (cnt (cd ws) (cs z) = 0 → ∀ H' p, Same H H' → H' p = some (.lst [.str "message"]) → Q (.ref p) H')
theorem has_lcommon {CN fI : Addr} (TN : PySem.NotPX.NotPTxt K mg CN fI) (D : DefAt K mg "_law_common" sLCommon) (GN : Has P w K mg base (L2.CX P w) 5 "common_boundaries" ["code", "string"] (spCommon CN)) :
    Has P w K mg base CX0 6 "_law_common" ["_law_code_here", "_law_string_here"] spLCommon := by
  obtain ⟨f, fd, g, F⟩ := D
  refine ⟨f, fd, g, F.kp, F.binds (fun _ _ _ _ _ _ us hl => match us, hl with | [_, _], _ => rfl), F.ok scLCommon (fun vs H Q E h => ?_) (fun cdv A outer s H vs Q E hr h => ?_)⟩
  · obtain ⟨c, ws, z, rfl, _⟩ := h
    rfl
  · obtain ⟨c, ws, z, rfl, hc, ok, ha, hz, q1, q2⟩ := h
    obtain ⟨f2, fd2, g2, k2, b2, F2⟩ := GN
    refine ⟨_, pss_one (ps_try_as (i := 2) (tb := fun W => tRet (tCallS (spCommon CN) (WE W) (tCons (tVar 0) (tCons (tVar 1) tNil)))) (ts := fun a cls d => tRet (tLst (tCons (tByNotP CN a cls d (tVar 2)) tNil))) (Wout := fun _ _ _ _ => False) rfl rfl scLCommon.nd rfl rfl ⟨rfl, by decide, Or.inl TN.gC⟩ takes0
        (fun W pn xe tk _ => pss_one (ps_ret (by exact (pe_callS F2 hr rfl g2 k2 b2 (fun σ => passAt tk σ) (by exact (pa_cons (pv 0) (pa_cons (pv 1) pa_nil)))))))
        (fun a oe cls d pn hz hf => pss_one (ps_ret (pe_lst (pa_cons (by exact (pe_byNotP TN hz hf (pv 2))) pa_nil))))), ?_⟩
    refine ⟨_, rfl, _, rfl, c, ws, z, rfl, hc, ok, ha, hz, fun h0 H' p s1 n1 => q1 h0 H' p s1 n1, fun h0 H' d s1 hd => ?_⟩
    refine ⟨true, TN.te, fun _ a0 na => ?_, fun e => Bool.noConfusion e⟩
    exact ⟨_, rfl, rfl, rfl, d, _, rfl, hd, (by decide : 1 ≤ sizeLine), fun p np => q2 h0 _ p (s1.trans (same_new np)) upd_same⟩
end
end K02
/-! the law: what its steps need -/
namespace K02
open PySem PySem.Spec PyProof.Rows L2
/-! ### data -/
theorem da1 {H : Hp} {n : Nat} {x y : V} (h : Da H n x y) : ∀ (i : Nat) u v, [x][i]? = some u → [y][i]? = some v → Da H n u v
  | 0, u, v, e1, e2 => by
    obtain rfl := Option.some.inj e1
    obtain rfl := Option.some.inj e2
    exact h
  | i + 1, _, _, e1, _ => by cases e1
theorem da2 {H : Hp} {n : Nat} {x0 x1 y0 y1 : V} (h0 : Da H n x0 y0) (h1 : Da H n x1 y1) : ∀ (i : Nat) u v, [x0, x1][i]? = some u → [y0, y1][i]? = some v → Da H n u v
  | 0, u, v, e1, e2 => by
    obtain rfl := Option.some.inj e1
    obtain rfl := Option.some.inj e2
    exact h0
  | i + 1, u, v, e1, e2 => da1 h1 i u v e1 e2
theorem da3 {H : Hp} {n : Nat} {x0 x1 x2 y0 y1 y2 : V} (h0 : Da H n x0 y0) (h1 : Da H n x1 y1) (h2 : Da H n x2 y2) : ∀ (i : Nat) u v, [x0, x1, x2][i]? = some u → [y0, y1, y2][i]? = some v → Da H n u v
  | 0, u, v, e1, e2 => by
    obtain rfl := Option.some.inj e1
    obtain rfl := Option.some.inj e2
    exact h0
  | i + 1, u, v, e1, e2 => da2 h1 h2 i u v e1 e2
theorem da_flat {H : Hp} {n : Nat} {v : V} (h : flat1 v = true) : Da H (n + 1) v v := .inl ⟨rfl, h⟩
theorem da_num {H : Hp} {n : Nat} {p q : Addr} {r : List Nat} (hp : NumAt H p r) (hq : NumAt H q r) (hl : r.length ≤ 1000) : Da H (n + 2) (.ref p) (.ref q) := by
  refine .inr ⟨p, q, _, _, rfl, rfl, .inl ⟨hp, hq⟩, rfl, by rw [List.length_map]; exact hl, fun i x y hx hy => ?_⟩
  obtain rfl : x = y := Option.some.inj (hx.symm.trans hy)
  obtain ⟨m, _, rfl⟩ := pV_at hx
  exact .inl ⟨rfl, rfl⟩
theorem da_lst {H : Hp} {n : Nat} {p q : Addr} {xs ys : List V} (hp : H p = some (.lst xs)) (hq : H q = some (.lst ys)) (hl : xs.length = ys.length) (h1 : xs.length ≤ 1000) (h : ∀ (i : Nat) u v, xs[i]? = some u → ys[i]? = some v → Da H n u v) :
    Da H (n + 1) (.ref p) (.ref q) := .inr ⟨p, q, xs, ys, rfl, rfl, .inr ⟨hp, hq⟩, hl, h1, h⟩
theorem da_msg {H : Hp} {n : Nat} {p q : Addr} {z : Str} (hz : z.length ≤ 1000) (hp : H p = some (.lst [.str z])) (hq : H q = some (.lst [.str z])) : Da H (n + 2) (.ref p) (.ref q) :=
  da_lst hp hq rfl (by show 1 ≤ 1000; decide) (da1 (.inl ⟨rfl, decide_eq_true hz⟩))
/-! ### the listing as data -/
def dNum (r : List Nat) : PyData := .tuple (r.map fun n : Nat => .int (n : Int))
def dRow (M : List (Addr × List Nat)) : PyData := .list (M.map fun y => dNum y.2)
theorem ints_lay : ∀ r : List Nat, PyData.canLayAll0 (r.map fun n : Nat => PyData.int (n : Int)) = true ∧ PyData.depthAll (r.map fun n : Nat => PyData.int (n : Int)) = 0
  | [] => by simp [PyData.canLayAll0, PyData.depthAll]
  | n :: r => by
    obtain ⟨h1, h2⟩ := ints_lay r
    simp [PyData.canLayAll0, PyData.depthAll, PyData.canLay0, PyData.depth, h1, h2]
theorem rows_lay : ∀ M : List (Addr × List Nat), PyData.canLayAll0 (M.map fun y => dNum y.2) = true ∧ PyData.depthAll (M.map fun y => dNum y.2) ≤ 1
  | [] => by simp [PyData.canLayAll0, PyData.depthAll]
  | y :: M => by
    obtain ⟨h1, h2⟩ := rows_lay M
    obtain ⟨g1, g2⟩ := ints_lay y.2
    rw [List.map_cons]
    unfold PyData.canLayAll0 PyData.depthAll
    have e1 : (dNum y.2).canLay0 = true := by
      unfold dNum PyData.canLay0
      exact g1
    have e2 : (dNum y.2).depth = 1 := by
      unfold dNum PyData.depth
      rw [g2]
    rw [e1, e2, h1]
    exact ⟨rfl, by omega⟩
theorem row_shaped (M : List (Addr × List Nat)) : SeqAt.shaped (dRow M) = true := by
  obtain ⟨h1, h2⟩ := rows_lay M
  unfold SeqAt.shaped dRow PyData.canLay0 PyData.depth
  rw [h1, decide_eq_true (by omega)]
  rfl
theorem ints_dp {K : PySem.W.Frag} {H : Hp} : ∀ r : List Nat, DpAll K H (pV r) (r.map fun n : Nat => PyData.int (n : Int))
  | [] => .nil
  | n :: r => .cons (.int _) (ints_dp r)
theorem rows_dp {K : PySem.W.Frag} {H : Hp} : ∀ {M : List (Addr × List Nat)}, (∀ x ∈ M, NumAt H x.1 x.2) → DpAll K H (M.map fun x => V.ref x.1) (M.map fun y => dNum y.2)
  | [], _ => .nil
  | y :: M, h => .cons (.tup (.inl (.inl (h y List.mem_cons_self))) (ints_dp y.2)) (rows_dp fun x hx => h x (List.mem_cons_of_mem _ hx))
theorem row_dp {K : PySem.W.Frag} {H : Hp} {p : Addr} {M : List (Addr × List Nat)} (h : RowAt H p M) : Dp K H (.ref p) (dRow M) := .lst (.inl (.inl h.1)) (rows_dp h.2)
theorem row_ne (M : List (Addr × List Nat)) : (!PyData.eqv (dRow M) (.list [])) = decide (0 < M.length) := by
  cases M with
  | nil => simp [dRow, PyData.eqv, PyData.eqvAll]
  | cons y M => simp [dRow, PyData.eqv, PyData.eqvAll]
/-! ### the stream moves, the rest stands -/
theorem NumAt.but {H H' : Hp} {a l p : Addr} {q : List Nat} (h : NumAt H p q) (hs : StreamAt H a l) (s : But a H H') : NumAt H' p q := by
  obtain ⟨ns, x, k, h1, _⟩ := hs
  exact s _ _ h (ne_of h h1 (by intro z; cases z))
theorem RowAt.but {H H' : Hp} {a l r : Addr} {M : List (Addr × List Nat)} (h : RowAt H r M) (n : r ≠ a) (hs : StreamAt H a l) (s : But a H H') : RowAt H' r M := ⟨s _ _ h.1 n, fun x hx => (h.2 x hx).but hs s⟩
/-! ### the places of all parses -/
/-- at e: a list of lists of places -/
def EndsAt (H : Hp) (e : Addr) (E : List (Addr × List Nat)) : Prop := H e = some (.lst (E.map fun x => V.ref x.1)) ∧ ∀ x ∈ E, H x.1 = some (.lst (x.2.map iN))
theorem EndsAt.same {H H' : Hp} {e : Addr} {E : List (Addr × List Nat)} (h : EndsAt H e E) (s : Same H H') : EndsAt H' e E := ⟨s _ _ h.1, fun x hx => s _ _ (h.2 x hx)⟩
theorem inV_nums {l : List Nat} {i : Nat} : inV (iN i) (l.map iN) = decide (i ∈ l) := by
  unfold inV
  rw [List.any_map]
  induction l with
  | nil => rfl
  | cons u l ih =>
    rw [List.any_cons, ih]
    show (((u : Int) == (i : Int)) || decide (i ∈ l)) = decide (i ∈ u :: l)
    by_cases e : u = i
    · rw [e, beq_self_eq_true]
      simp
    · rw [beq_eq_false_iff_ne.mpr (by omega : (u : Int) ≠ (i : Int)), Bool.false_or]
      exact decide_eq_decide.mpr ⟨fun h => List.mem_cons_of_mem _ h, fun h => (List.mem_cons.mp h).resolve_left fun z => e z.symm⟩
theorem flat_nums (l : List Nat) : (l.map iN).all flatV = true := List.all_eq_true.mpr fun x hx => by
  obtain ⟨u, _, rfl⟩ := List.mem_map.mp hx
  rfl
/-- [place in row for row in ends], read -/
theorem in_rows {K : PySem.W.Frag} {σ : L2.St} {H : Hp} {e : Addr} {E : List (Addr × List Nat)} {i : Nat} {Q : V → Hp → Prop} (h8 : σ[8]? = some (some (.ref e))) (h13 : σ[13]? = some (some (iN i))) (hl : 14 < σ.length) (hE : EndsAt H e E) (hn : E.length ≤ sizeLine)
    (q : ∀ D H', Same H H' → H' D = some (.lst ((E.map fun x => decide (i ∈ x.2)).map V.bl)) → Q (.ref D) H') :
    tLc (iList K (tVar 8)) (gName 14) tYes (tOp (rIn K false) (tVar 13) (tVar 14)) [14] σ H Q := by
  refine ⟨_, h8, e, rfl, ⟨_, .inl (.inl hE.1)⟩, fun D hD => lc_map (walk_list (xs := E.map fun x => V.ref x.1)) (fun j => .bl (decide (i ∈ (E.getD j (0, [])).2))) hD (by rw [List.length_map]; exact hn) (fun H' s1 => .inl (.inl (s1 _ _ hE.1))) (fun j x H1 H2 R hj s1 y hR => ?_) (fun H1 s1 e1 => ?_)⟩
  · obtain ⟨rfl, hx⟩ := y
    rw [List.length_map] at hj
    have ey : E[j]? = some E[j] := List.getElem?_eq_getElem hj
    generalize E[j] = y at ey
    rw [List.getElem?_map, ey] at hx
    obtain rfl : V.ref y.1 = x := Option.some.inj hx
    have eg : (E.getD j (0, [])).2 = y.2 := by rw [List.getD_eq_getElem?_getD, ey]; rfl
    rw [eg] at hR
    refine ⟨iN i, ?_, .ref y.1, ?_, y.1, _, rfl, .inl (.inl (.inl (s1 _ _ (hE.2 y (List.mem_of_getElem? ey))))), rfl, flat_nums y.2, ?_⟩
    · show ((σ.set 14 none).set 14 _)[13]? = _
      rw [List.getElem?_set_ne (by decide), List.getElem?_set_ne (by decide)]
      exact h13
    · show ((σ.set 14 none).set 14 _)[14]? = _
      rw [List.getElem?_set_self (by rw [List.length_set]; exact hl)]
    · show R (V.bl (inV (iN i) (y.2.map iN))) H2
      rw [inV_nums]
      exact hR _ (Same.refl _)
  · refine q D H1 s1 ?_
    rw [List.length_map, keptL_all (xs := E) (g := fun x => V.bl (decide (i ∈ x.2))) (fun j x h => by rw [List.getD_eq_getElem?_getD, h]; rfl)] at e1
    rw [List.map_map]
    exact e1
theorem in_any {K : PySem.W.Frag} {σ : L2.St} {H : Hp} {e : Addr} {E : List (Addr × List Nat)} {i : Nat} {Q : Bool → Hp → Prop} (h8 : σ[8]? = some (some (.ref e))) (h13 : σ[13]? = some (some (iN i))) (hl : 14 < σ.length) (hE : EndsAt H e E) (hn : E.length ≤ sizeLine)
    (q : ∀ H', Same H H' → Q ((E.map fun x => decide (i ∈ x.2)).any id) H') : tB (tCB (rAny K) (tCons (tLc (iList K (tVar 8)) (gName 14) tYes (tOp (rIn K false) (tVar 13) (tVar 14)) [14]) tNil)) σ H Q :=
  in_rows (Q := fun x H1 => rAny K [x] H1 fun v H3 => ∃ c, v = .bl c ∧ Q c H3) h8 h13 hl hE hn fun D H' s e => ⟨D, _, rfl, .inl (.inl e), _, rfl, q H' s⟩
theorem in_all {K : PySem.W.Frag} {σ : L2.St} {H : Hp} {e : Addr} {E : List (Addr × List Nat)} {i : Nat} {Q : Bool → Hp → Prop} (h8 : σ[8]? = some (some (.ref e))) (h13 : σ[13]? = some (some (iN i))) (hl : 14 < σ.length) (hE : EndsAt H e E) (hn : E.length ≤ sizeLine)
    (q : ∀ H', Same H H' → Q ((E.map fun x => decide (i ∈ x.2)).all id) H') : tB (tCB (rAll K) (tCons (tLc (iList K (tVar 8)) (gName 14) tYes (tOp (rIn K false) (tVar 13) (tVar 14)) [14]) tNil)) σ H Q :=
  in_rows (Q := fun x H1 => rAll K [x] H1 fun v H3 => ∃ c, v = .bl c ∧ Q c H3) h8 h13 hl hE hn fun D H' s e => ⟨D, _, rfl, .inl (.inl e), _, rfl, q H' s⟩
theorem any_rows {C : List Wd} (hC : PosW C) {t : Wd} {E : List (Addr × List Nat)} (hE : E.map Prod.snd = (ps C t).map (endsL C)) {i : Nat} (hi : i ≤ t.length) : (E.map fun x => decide (i ∈ x.2)).any id = decide (0 < cnt C (t.take i) * cnt C (t.drop i)) := by
  have e1 : (E.map fun x => decide (i ∈ x.2)) = (ps C t).map fun p => decide (i ∈ endsP C 0 p) := by
    have e2 : (E.map fun x => decide (i ∈ x.2)) = (E.map Prod.snd).map fun l => decide (i ∈ l) := by rw [List.map_map]; rfl
    rw [e2, hE, List.map_map]
    exact List.map_congr_left fun p _ => decide_eq_decide.mpr mem_endsL
  rw [e1, Bool.eq_iff_iff, List.any_map, List.any_eq_true, decide_eq_true_eq, ← some_iff hC hi]
  exact ⟨fun ⟨p, h1, h2⟩ => ⟨p, h1, of_decide_eq_true h2⟩, fun ⟨p, h1, h2⟩ => ⟨p, h1, decide_eq_true h2⟩⟩
theorem all_rows {C : List Wd} (hC : PosW C) {t : Wd} {E : List (Addr × List Nat)} (hE : E.map Prod.snd = (ps C t).map (endsL C)) {i : Nat} (hi : i ≤ t.length) : (E.map fun x => decide (i ∈ x.2)).all id = decide (cnt C (t.take i) * cnt C (t.drop i) = cnt C t) := by
  have e1 : (E.map fun x => decide (i ∈ x.2)) = (ps C t).map fun p => decide (i ∈ endsP C 0 p) := by
    have e2 : (E.map fun x => decide (i ∈ x.2)) = (E.map Prod.snd).map fun l => decide (i ∈ l) := by rw [List.map_map]; rfl
    rw [e2, hE, List.map_map]
    exact List.map_congr_left fun p _ => decide_eq_decide.mpr mem_endsL
  rw [e1, Bool.eq_iff_iff, List.all_map, List.all_eq_true, decide_eq_true_eq, ← all_iff hC hi]
  exact ⟨fun h p hp => of_decide_eq_true (h p hp), fun h p hp => decide_eq_true (h p hp)⟩
section
variable {X : Cx} {k : Nat} {ps : List Str} {sp : Sp} {x : Str} {p pos : Pos} {e : Expr} {es : List Expr} {t : TA}
/-- a call of a def that may raise, at which nothing is raised -/
theorem pe_hasL (G : Has X.prog X.w X.K X.mg X.base (L2.CX X.prog X.w) k x ps sp) (hr : Room k X.A) (hg : Gl X x) (ha : PA X (e :: es) t) (hdb : (x == ("__debug__" : Str)) = false := by decide)
    (he : starEach (e :: es) X.env = (false, eval e X.env) :: starEach es X.env := by rfl) (hpl : (backTo pos (starEach es X.env)).any (·.1) = false := by rfl) :
    PE X (.Call (.Name x p) (e :: es) [] pos) (tCall sp [] E0 t) := by
  obtain ⟨f, fd, gm, hk, hb, F⟩ := G
  exact pe_call F hr hg gm hk hb .nil passL ha hdb he hpl
end
end K02
/-! the law -/
namespace K02
open PySem PySem.Spec PyProof.Rows L2
abbrev nLaw : List Str := ["_law_script", "_law_stream_here", "_law_code_here", "_law_turn", "_law_string_here", "_law_parses_here", "_law_at", "_law_k", "_law_ends_here", "_law_places", "_law_some", "_law_due", "_law_parse", "_law_place", "_law_row"]
theorem scLaw : FnScope nLaw ["_law_script"] (defScope sLaw) := ⟨rfl, rfl, rfl, by decide +kernel, rfl, by decide +kernel, by decide +kernel⟩
/-- the outer listing's own names, with any or all -/
def oScope (b : String) : Scope := { kind := .function, names := [(Str.ofString ".0", .local), (Str.ofString "_law_place", .cell), (Str.ofString b, .globalImplicit), (Str.ofString "_law_ends_here", .free)], isGenerator := false, isCoroutine := false, more := [] }
structure Deps (P : Program) (w : World) (K : PySem.W.Frag) (mg : Str → Option Value) (base : Heap) (CB : Addr) : Prop where
  stream : Has P w K mg base CX0 1 "_law_stream" ["_law_script"] (spStream K)
  code : Has P w K mg base CX0 3 "_law_code" ["_law_stream_here", "_law_many", "_law_most"] spLCode
  msg : Has P w K mg base CX0 3 "_law_message" ["_law_stream_here", "_law_code_here", "_law_most"] spLMsg
  str : Has P w K mg base CX0 2 "_law_string" ["_law_stream_here", "_law_least", "_law_most", "_law_letters"] spLStr
  next : Has P w K mg base CX0 1 "_law_next" ["_law_stream_here", "_law_many"] spNext
  par : Has P w K mg base CX0 1 "_law_parses" ["_law_code_here", "_law_string_here"] spLPar
  ends : Has P w K mg base CX0 1 "_law_ends" ["_law_code_here", "_law_parse"] spLEnds
  eq : Has P w K mg base CX0 4 "_law_equal" ["_law_actual", "_law_due"] (spEq 3)
  lnth : Has P w K mg base CX0 6 "_law_nth" ["_law_code_here", "_law_string_here", "_law_index"] spLNth
  lcom : Has P w K mg base CX0 6 "_law_common" ["_law_code_here", "_law_string_here"] spLCommon
  count : Has P w K mg base CX0 5 "count_parses" ["code", "string"] spCount
  ismsg : Has P w K mg base CX0 5 "is_message" ["code", "string"] spIsMessage
  nth : Has P w K mg base (L2.CX P w) 5 "nth_parse" ["code", "string", "index"] (spNth CB)
  index : Has P w K mg base CX0 5 "index_of_parse" ["code", "parse"] spIndex
  strof : Has P w K mg base CX0 5 "string_of" ["code", "parse"] spJoined
  bounds : Has P w K mg base CX0 5 "boundaries" ["code", "string"] spBounds
section
variable {P : Program} {w : World} {K : PySem.W.Frag} {mg : Str → Option Value} {base : Heap}
def spLaw (K : PySem.W.Frag) : Sp := fun vs H Q _ => ∃ (a0 : Addr) (ns : List Int), vs = [.ref a0] ∧ SqL K H a0 (ns.map V.int) ∧ ∀ H', Q (.bl true) H'
theorem ok_law {CB f : Addr} {fd : FuncData} (T : Txt K mg) (F : Fun K "law" "law" sLaw f fd) (G : Deps P w K mg base CB) : FnOk P w K mg base CX0 7 f fd ["_law_script"] (spLaw K) := by
  refine F.ok scLaw (fun vs H Q E h => ?_) (fun cdv A outer s H vs Q E hr h => ?_)
  · obtain ⟨a0, ns, rfl, _⟩ := h
    rfl
  · obtain ⟨a0, ns, rfl, hscr, q⟩ := h
    have hr1 : Room 1 _ := hr.mono (by decide)
    have hr2 : Room 2 _ := hr.mono (by decide)
    have hr3 : Room 3 _ := hr.mono (by decide)
    have hr4 : Room 4 _ := hr.mono (by decide)
    have hr5 : Room 5 _ := hr.mono (by decide)
    refine ⟨_, pss_cons (ps_set (i := 1) scLaw.nd rfl (Or.inl rfl) (pe_has G.stream hr1 (by rfl) (pa_cons (pv 0) pa_nil)))
      (pss_cons (ps_set (i := 2) scLaw.nd rfl (Or.inr rfl) (pe_has G.code hr3 (by rfl) (pa_cons (pv 1) (pa_cons pe_int (pa_cons pe_int pa_nil)))))
      (pss_cons (ps_for PassesOwn.never rfl (pi_range1 (by rfl) T.rng (pa_cons pe_int pa_nil)) (pg_name (i := 3) scLaw.nd rfl (Or.inl rfl))
        -- the text
        (C8.pss_cut (ps_set (i := 4) scLaw.nd rfl (Or.inl rfl) (pe_ifExp (pt_cmpR op_lt (pv 3) pe_int (nomark _)) (pe_has G.msg hr3 (by rfl) (pa_cons (pv 1) (pa_cons (pv 2) (pa_cons pe_int pa_nil))))
          (pe_has G.str hr2 (by rfl) (pa_cons (pv 1) (pa_cons pe_int (pa_cons pe_int (pa_cons pe_int pa_nil)))))))
        (pss_cons (ps_set (i := 5) scLaw.nd rfl (Or.inl rfl) (pe_has G.par hr1 (by rfl) (pa_cons (pv 2) (pa_cons (pv 4) pa_nil))))
        -- the counts
        (C8.pss_cut (ps_if (pt_not (pt_val (pe_has G.eq hr4 (by rfl) (pa_cons
            (pe_lst (pa_cons (pe_has G.count hr5 (by rfl) (pa_cons (pv 2) (pa_cons (pv 4) pa_nil))) (pa_cons (pe_has G.ismsg hr5 (by rfl) (pa_cons (pv 2) (pa_cons (pv 4) pa_nil)))
              (pa_cons (pe_has G.lnth hr (by rfl) (pa_cons (pv 2) (pa_cons (pv 4) (pa_cons (pe_callB cr_len (by rfl) T.len boot_len (pa_cons (pv 5) pa_nil)) pa_nil)))) pa_nil))))
            (pa_cons (pe_lst (pa_cons (pe_callB cr_len (by rfl) T.len boot_len (pa_cons (pv 5) pa_nil)) (pa_cons (pe_cmpR (op_neD hr.units) (pv 5) (pe_lst pa_nil) (nomark _)) (pa_cons (pe_lst (pa_cons pe_str pa_nil)) pa_nil)))) pa_nil))))) (pss_one (ps_ret pe_bl)) pss_nil)
        (pss_cons (ps_set (i := 6) scLaw.nd rfl (Or.inl rfl) pe_int)
        -- some parses
        (C8.pss_cut (ps_for PassesOwn.never rfl (pi_range1 (by rfl) T.rng (pa_cons (pe_callB (call_min2 rfl) (by rfl) T.min boot_min (pa_cons pe_int (pa_cons (pe_callB cr_len (by rfl) T.len boot_len (pa_cons (pv 5) pa_nil)) pa_nil))) pa_nil)) (pg_name (i := 7) scLaw.nd rfl (Or.inl rfl))
          (C8.pss_cut (ps_if (pt_not (pt_val (pe_has G.eq hr4 (by rfl) (pa_cons
              (pe_lst (pa_cons (pe_hasL G.nth hr5 (by rfl) (pa_cons (pv 2) (pa_cons (pv 4) (pa_cons (pv 6) pa_nil)))) (pa_cons (pe_has G.index hr5 (by rfl) (pa_cons (pv 2) (pa_cons (pe_ix ix_list (pv 5) (pv 6) (fun _ _ => rfl)) pa_nil)))
                (pa_cons (pe_has G.strof hr5 (by rfl) (pa_cons (pv 2) (pa_cons (pe_ix ix_list (pv 5) (pv 6) (fun _ _ => rfl)) pa_nil))) pa_nil))))
              (pa_cons (pe_lst (pa_cons (pe_ix ix_list (pv 5) (pv 6) (fun _ _ => rfl)) (pa_cons (pv 6) (pa_cons (pv 4) pa_nil)))) pa_nil))))) (pss_one (ps_ret pe_bl)) pss_nil)
          (pss_one (ps_set (i := 6) scLaw.nd rfl (Or.inl rfl) (pe_has G.next hr1 (by rfl) (pa_cons (pv 1) (pa_cons (pe_callB cr_len (by rfl) T.len boot_len (pa_cons (pv 5) pa_nil)) pa_nil)))))))
        -- the places
        (C8.pss_cut (ps_set (i := 8) scLaw.nd rfl (Or.inr rfl) (pe_lc (own := [("_law_parse", 12)]) (g := gName 12) (by rfl) scLaw.nd (pi_list (pv 5)) (blkOk_by (own := [("_law_parse", 12)]) (N := nLaw) (sc := defScope sLaw) (by decide +kernel))
          (fun _ _ _ _ _ => pg_name (i := 12) scLaw.nd rfl (Or.inl rfl)) (fun _ _ _ _ _ => pts_nil) (fun _ _ _ _ _ => pe_has G.ends hr1 (by rfl) (pa_cons (pv 2) (pa_cons (pv 12) pa_nil)))))
        (pss_cons (ps_set (i := 9) scLaw.nd rfl (Or.inl rfl) (pe_listRg rfl (by rfl) T.lst (prg_1 (by rfl) T.rng (pe_op op_add (pe_callB call_len_str (by rfl) T.len boot_len (pa_cons (pv 4) pa_nil)) pe_int))))
        (C8.pss_cut (ps_set (i := 10) scLaw.nd rfl (Or.inl rfl) (pe_callTy call_tuple_of (by rfl) T.tup boot_tuple (pa_cons
          (pe_lc (own := [("_law_place", 13)]) (g := gName 13) (tt := tB (tCB (rAny K) (tCons (tLc (iList K (tVar 8)) (gName 14) tYes (tOp (rIn K false) (tVar 13) (tVar 14)) [14]) tNil))) (by rfl) scLaw.nd (pi_list (pv 9))
            (blkOk_by (own := [("_law_place", 13)]) (N := nLaw) (sc := defScope sLaw) (by decide +kernel))
            (fun _ _ _ _ _ => pg_name (i := 13) scLaw.nd rfl (Or.inr rfl))
            (fun _ _ _ _ _ => pts_one (pt_val (pe_callB (r := rAny K) (by exact cr_any rfl) (by rfl) T.any boot_any (pa_cons
              (pe_lc (own := [("_law_row", 14)]) (g := gName 14) (by rfl) scLaw.nd (by exact pi_list (pv 8)) (blkOk_by (own := [("_law_row", 14)]) (N := nLaw) (sc := relS (oScope "any") (defScope sLaw)) (by decide +kernel))
                (fun _ _ _ _ _ => pg_name (i := 14) scLaw.nd rfl (Or.inl rfl)) (fun _ _ _ _ _ => pts_nil) (fun _ _ _ _ _ => pe_cmpR (r := rIn K false) (by exact op_in_seq) (pv 13) (pv 14) rfl)) pa_nil))))
            (fun _ _ _ _ _ => pv 13)) pa_nil)))
        (C8.pss_cut (ps_set (i := 11) scLaw.nd rfl (Or.inl rfl) (pe_ifExp (pt_truth (pv 8) (by intro _; rfl)) (pe_callTy call_tuple_of (by rfl) T.tup boot_tuple (pa_cons
          (pe_lc (own := [("_law_place", 13)]) (g := gName 13) (tt := tB (tCB (rAll K) (tCons (tLc (iList K (tVar 8)) (gName 14) tYes (tOp (rIn K false) (tVar 13) (tVar 14)) [14]) tNil))) (by rfl) scLaw.nd (pi_list (pv 9))
            (blkOk_by (own := [("_law_place", 13)]) (N := nLaw) (sc := defScope sLaw) (by decide +kernel))
            (fun _ _ _ _ _ => pg_name (i := 13) scLaw.nd rfl (Or.inr rfl))
            (fun _ _ _ _ _ => pts_one (pt_val (pe_callB (r := rAll K) (by exact cr_all rfl) (by rfl) T.all boot_all (pa_cons
              (pe_lc (own := [("_law_row", 14)]) (g := gName 14) (by rfl) scLaw.nd (by exact pi_list (pv 8)) (blkOk_by (own := [("_law_row", 14)]) (N := nLaw) (sc := relS (oScope "all") (defScope sLaw)) (by decide +kernel))
                (fun _ _ _ _ _ => pg_name (i := 14) scLaw.nd rfl (Or.inl rfl)) (fun _ _ _ _ _ => pts_nil) (fun _ _ _ _ _ => pe_cmpR (r := rIn K false) (by exact op_in_seq) (pv 13) (pv 14) rfl)) pa_nil))))
            (fun _ _ _ _ _ => pv 13)) pa_nil)) (pe_lst (pa_cons pe_str pa_nil))))
        (pss_one (ps_if (pt_not (pt_val (pe_has G.eq hr4 (by rfl) (pa_cons
            (pe_lst (pa_cons (pe_has G.bounds hr5 (by rfl) (pa_cons (pv 2) (pa_cons (pv 4) pa_nil))) (pa_cons (pe_has G.lcom hr (by rfl) (pa_cons (pv 2) (pa_cons (pv 4) pa_nil))) pa_nil)))
            (pa_cons (pe_lst (pa_cons (pv 10) (pa_cons (pv 11) pa_nil))) pa_nil))))) (pss_one (ps_ret pe_bl)) pss_nil))))))))))))
      (pss_one (ps_ret pe_bl)))), ?_⟩
    refine ⟨_, rfl, a0, ns, rfl, hscr, fun H1 a l s1 na hs1 => ?_⟩
    refine ⟨_, rfl, a, l, rfl, hs1, fun c ws H2 s2 hs2 hc2 ok hca hc0 => ?_⟩
    have hC := ok.pos
    refine ⟨3, rfl, by decide, by decide, for_it walk_range
      (fun i σ H' => ∃ y3 y4 y5 y6 y7 y8 y9 y10 y11, σ = [some (.ref a0), some (.ref a), some (.ref c), y3, y4, y5, y6, y7, y8, y9, y10, y11, none, none, none] ∧ StreamAt H' a l ∧ CodeAt H' c ws)
      ⟨none, none, none, none, none, none, none, none, none, rfl, hs2, hc2⟩ (fun _ _ _ _ _ => trivial) (fun i x σ H3 H4 hi hP hY => ?_) (fun σ H3 hP => q _)⟩
    obtain ⟨y3, y4, y5, y6, y7, y8, y9, y10, y11, rfl, hs3, hc3⟩ := hP
    obtain ⟨rfl, ex⟩ := hY
    have ex2 : x = iN i := ex.trans (congrArg V.int (by show (0 : Int) + (i : Int) = _; omega))
    clear ex
    subst ex2
    -- the text
    refine ⟨fun σ H' => ∃ z : Str, σ = [some (.ref a0), some (.ref a), some (.ref c), some (iN i), some (.str z), y5, y6, y7, y8, y9, y10, y11, none, none, none] ∧ z.length ≤ 10 ∧ Abc z ∧ StreamAt H' a l ∧ CodeAt H' c ws, ?_, ?_⟩
    · refine ⟨_, rfl, _, _, rfl, rfl, _, rfl, ite2 (fun _ => ?_) (fun _ => ?_)⟩
      · exact ⟨_, rfl, _, rfl, a, l, c, ws, rfl, hs3, hc3, ok, hca, fun z H' hz ha s hs' => ⟨z, rfl, hz, ha, hs', s.code hc3 hca⟩⟩
      · exact ⟨_, rfl, a, l, 0, 6, 2, rfl, hs3, by decide, by decide, by decide, by decide, fun z H' h0 h6 ha s hs' => ⟨z, rfl, by omega, ha, hs', s.code hc3 hca⟩⟩
    rintro σ H5 ⟨z, rfl, hz, ha, hs5, hc5⟩
    have zl : z.length ≤ sizeLine := Nat.le_of_lt (small1000 (by omega))
    have csl : (cs z).length = z.length := cs_len z
    refine ⟨_, rfl, _, rfl, c, ws, z, rfl, hc5, ok, hz, fun H6 p M s6 np hM eM => ?_⟩
    obtain ⟨pa, pl⟩ := hs5.apart np
    have hs6 := hs5.same s6
    have hc6 := hc5.same s6
    have ml : M.length = cnt (cd ws) (cs z) := by
      have e := congrArg List.length eM
      rw [List.length_map] at e
      exact e
    have cl : cnt (cd ws) (cs z) < sizeLine := ok.cnt_line (by rw [csl]; exact hz)
    have cl2 : cnt (cd ws) (cs z) < 16777217 := by
      rw [sizeLine_eq] at cl
      omega
    have lenM : ∀ {H' : Hp}, H' p = some (.lst (M.map fun x => V.ref x.1)) → LenV K (.ref p) H' M.length := fun e => .inl ⟨_, .inl (.inl e), by rw [List.length_map]⟩
    -- the counts
    refine ⟨fun σ H' => σ = [some (.ref a0), some (.ref a), some (.ref c), some (iN i), some (.str z), some (.ref p), y6, y7, y8, y9, y10, y11, none, none, none] ∧ Same H6 H', ?_, ?_⟩
    · refine ⟨_, rfl, _, rfl, c, ws, z, rfl, hc6, ok, ha, by omega, fun H7 s7 => ?_⟩
      refine ⟨_, rfl, _, rfl, c, ws, z, rfl, hc6.same s7, ok, ha, by omega, fun H8 s8 => ?_⟩
      have s68 := s7.trans s8
      refine ⟨_, rfl, _, rfl, _, rfl, _, M.length, rfl, lenM (s68 _ _ hM.1), c, ws, z, _, rfl, hc6.same s68, ok, ha, by omega, by omega, fun H9 p1 s9 e1 => ?_⟩
      have s69 := s68.trans s9
      refine ⟨(by decide : 3 ≤ sizeLine), fun q1 n1 => ?_⟩
      have t1 := same_new (o := .lst [iN (cnt (cd ws) (cs z)), .bl (decide (0 < cnt (cd ws) (cs z))), .ref p1]) n1
      refine ⟨_, rfl, _, M.length, rfl, lenM ((s69.trans t1) _ _ hM.1), ?_⟩
      refine ⟨_, rfl, (by decide : 0 ≤ sizeLine), fun q2 n2 => ?_⟩
      have t2 := same_new (o := .lst []) n2
      refine ⟨dRow M, .list [], row_dp (hM.same ((s69.trans t1).trans t2)), .lst (.inl (.inl upd_same)) .nil, row_shaped M, by decide +kernel, ?_⟩
      rw [row_ne, ml]
      refine ⟨(by decide : 1 ≤ sizeLine), fun q3 n3 => ?_⟩
      have t3 := same_new (o := .lst [.str "index"]) n3
      refine ⟨(by decide : 3 ≤ sizeLine), fun q4 n4 => ?_⟩
      have t4 := same_new (o := .lst [iN (cnt (cd ws) (cs z)), .bl (decide (0 < cnt (cd ws) (cs z))), .ref q3]) n4
      refine ⟨_, _, rfl, ?_, fun H' s' => ⟨_, rfl, iteF ⟨rfl, (((((s69.trans t1).trans t2).trans t3).trans t4).trans s')⟩⟩⟩
      refine da_lst (((t2.trans t3).trans t4) _ _ upd_same) upd_same rfl (by show 3 ≤ 1000; decide) (da3 (da_flat rfl) (da_flat rfl) (da_msg (by decide) ((((t1.trans t2).trans t3).trans t4) _ _ e1) (t4 _ _ upd_same)))
    rintro σ H7 ⟨rfl, s7⟩
    -- some parses
    refine ⟨fun σ H' => ∃ y6 y7, σ = [some (.ref a0), some (.ref a), some (.ref c), some (iN i), some (.str z), some (.ref p), y6, y7, y8, y9, y10, y11, none, none, none] ∧ But a H6 H' ∧ StreamAt H' a l, ?_, ?_⟩
    · refine ⟨_, rfl, _, M.length, rfl, lenM (s7 _ _ hM.1), _, _, rfl, _, rfl, ?_, ?_, for_it walk_range
        (fun j σ H' => ∃ (k0 : Nat) (y7 : Option V), σ = [some (.ref a0), some (.ref a), some (.ref c), some (iN i), some (.str z), some (.ref p), some (iN k0), y7, y8, y9, y10, y11, none, none, none] ∧ (0 < M.length → k0 < M.length) ∧ But a H6 H' ∧ StreamAt H' a l)
        ⟨0, y7, rfl, fun h => h, But.of s7, hs6.same s7⟩ (fun _ _ _ _ _ => trivial) (fun j x σ H8 H9 hj hP hY => ?_) (fun σ H8 hP => ?_)⟩
      · split <;> omega
      · split <;> omega
      · obtain ⟨k0, y7, rfl, hk0, s8, hs8⟩ := hP
        obtain ⟨rfl, -⟩ := hY
        have hpos : 0 < M.length := by
          rcases Nat.eq_zero_or_pos M.length with e | e
          · rw [e] at hj
            simp at hj
          · exact e
        have hk := hk0 hpos
        have ey : M[k0]? = some M[k0] := List.getElem?_eq_getElem hk
        generalize M[k0] = y at ey
        have hyM := List.mem_of_getElem? ey
        have er : (ps (cd ws) (cs z))[k0]? = some y.2 := by
          rw [← eM, List.getElem?_map, ey]
          rfl
        obtain ⟨hv, hj2⟩ := (mem_ps hC y.2 (cs z)).mp (List.mem_of_getElem? er)
        have hlen : (jn (cd ws) y.2).length ≤ 24 := by
          rw [hj2, csl]
          omega
        have hy2 : y.2.length ≤ 1000 := by
          have h1 := jn_many hC hv
          omega
        have hc9 : CodeAt H9 c ws := s8.code hc6 hca
        have hM9 : RowAt H9 p M := hM.but pa hs6 s8
        have itm : ∀ {H' : Hp}, H' p = some (.lst (M.map fun x => V.ref x.1)) → atI (M.map fun x => V.ref x.1) (k0 : Int) = some (.ref y.1) := fun _ => atI_nat (by rw [List.getElem?_map, ey]; rfl)
        refine ⟨fun σ H' => σ = [some (.ref a0), some (.ref a), some (.ref c), some (iN i), some (.str z), some (.ref p), some (iN k0), some x, y8, y9, y10, y11, none, none, none] ∧ Same H9 H', ?_, ?_⟩
        · refine ⟨_, rfl, _, rfl, _, rfl, c, ws, z, _, rfl, hc9, ok, ha, by omega, fun k1 r ek er1 H10 p1 s10 n1 => ?_, fun h => absurd ⟨by omega, by omega⟩ h⟩
          have ek2 : k0 = k1 := by omega
          subst ek2
          obtain rfl : y.2 = r := Option.some.inj (er.symm.trans er1)
          have hM10 := hM9.same s10
          refine ⟨_, rfl, _, rfl, _, rfl, p, _, _, _, rfl, rfl, .inl (.inl hM10.1), itm hM10.1, c, ws, y.1, y.2, rfl, hc9.same s10, ok, hM10.2 y hyM, hv, hlen, fun H11 s11 => ?_⟩
          rw [hj2, rank_is hC er]
          have hM11 := hM10.same s11
          refine ⟨_, rfl, _, rfl, _, rfl, p, _, _, _, rfl, rfl, .inl (.inl hM11.1), itm hM11.1, c, ws, y.1, y.2, rfl, (hc9.same s10).same s11, ok, hM11.2 y hyM, hv, hlen, fun H12 u s12 eu => ?_⟩
          obtain rfl : u = z := cs_inj (eu.trans hj2)
          refine ⟨(by decide : 3 ≤ sizeLine), fun q1 n2 => ?_⟩
          have t1 := same_new (o := .lst [.ref p1, iN k0, .str u]) n2
          have hM12 := (hM11.same s12).same t1
          refine ⟨_, rfl, _, rfl, p, _, _, _, rfl, rfl, .inl (.inl hM12.1), itm hM12.1, _, rfl, _, rfl, (by decide : 3 ≤ sizeLine), fun q2 n3 => ?_⟩
          have t2 := same_new (o := .lst [.ref y.1, iN k0, .str u]) n3
          refine ⟨_, _, rfl, ?_, fun H' s' => ⟨_, rfl, iteF ⟨rfl, ((((s10.trans s11).trans s12).trans t1).trans t2).trans s'⟩⟩⟩
          exact da_lst (t2 _ _ upd_same) upd_same rfl (by show 3 ≤ 1000; decide) (da3 (da_num (n := 0) ((((s11.trans s12).trans t1).trans t2) _ _ n1) (t2 _ _ (hM12.2 y hyM)) hy2) (da_flat rfl) (da_flat (decide_eq_true (by omega))))
        · rintro σ H10 ⟨rfl, s10⟩
          refine ⟨_, rfl, _, rfl, _, M.length, rfl, lenM (s10 _ _ hM9.1), a, l, _, rfl, hs8.same s10, by omega, by omega, fun d H11 hd s11 hs11 => ?_⟩
          exact ⟨d, some x, rfl, fun _ => by omega, (s8.trans (But.of s10)).trans s11, hs11⟩
      · obtain ⟨k0, y7, rfl, hk0, s8, hs8⟩ := hP
        exact ⟨_, _, rfl, s8, hs8⟩
    rintro σ H8 ⟨y6, y7, rfl, s8, hs8⟩
    have hc8 : CodeAt H8 c ws := s8.code hc6 hca
    have hM8 : RowAt H8 p M := hM.but pa hs6 s8
    -- the places of each parse
    refine ⟨fun σ H' => ∃ (e : Addr) (E : List (Addr × List Nat)), σ = [some (.ref a0), some (.ref a), some (.ref c), some (iN i), some (.str z), some (.ref p), y6, y7, some (.ref e), y9, y10, y11, none, none, none] ∧ Same H8 H' ∧ EndsAt H' e E ∧
      E.map Prod.snd = (ps (cd ws) (cs z)).map (endsL (cd ws)), ?_, ?_⟩
    · refine ⟨_, rfl, p, rfl, ⟨_, .inl (.inl hM8.1)⟩, fun D hD => ?_⟩
      refine lc_it (walk_list (xs := M.map fun x => V.ref x.1)) (fun j H' => Same H8 H' ∧ ∃ E : List (Addr × List Nat), H' D = some (.lst (E.map fun x => V.ref x.1)) ∧ E.length = j ∧ (∀ x ∈ E, x.1 ≠ D ∧ H' x.1 = some (.lst (x.2.map iN))) ∧ E.map Prod.snd = (M.take j).map fun y => endsL (cd ws) y.2)
        ⟨same_new hD, [], upd_same, rfl, fun x hx => by simp at hx, rfl⟩ (fun j H' _ h => .inl (.inl (h.1 _ _ hM8.1))) (fun j v H9 H10 hj hP hY => ?_) (fun H9 hP => ?_)
      · obtain ⟨s9, E, eD, el, en, em⟩ := hP
        obtain ⟨rfl, hv⟩ := hY
        rw [List.length_map] at hj
        have ey : M[j]? = some M[j] := List.getElem?_eq_getElem hj
        generalize M[j] = y at ey
        rw [List.getElem?_map, ey] at hv
        obtain rfl : V.ref y.1 = v := Option.some.inj hv
        have hyM := List.mem_of_getElem? ey
        have hmem : y.2 ∈ ps (cd ws) (cs z) := by
          rw [← eM]
          exact List.mem_map.mpr ⟨y, hyM, rfl⟩
        obtain ⟨hv2, hj2⟩ := (mem_ps hC y.2 (cs z)).mp hmem
        have hy2 : y.2.length ≤ 100 := by
          have h1 := jn_many hC hv2
          rw [hj2, csl] at h1
          omega
        refine ⟨wipe_set1, ?_⟩
        refine ⟨_, rfl, _, rfl, c, ws, y.1, y.2, rfl, hc8.same s9, ok, (hM8.2 y hyM).same s9, hv2, hy2, fun H11 b s11 nb eb => ?_⟩
        have eD11 := s11 _ _ eD
        have bD : b ≠ D := Ne.symm (ne_of_none eD nb)
        refine ⟨_, eD11, ?_, same_at (s9.trans s11) hD, E ++ [(b, endsL (cd ws) y.2)], ?_, ?_, fun x hx => ?_, ?_⟩
        · rw [List.length_map, el, sizeLine_eq]
          omega
        · rw [upd_same, List.map_append]
          rfl
        · rw [List.length_append, el]
          rfl
        · rcases List.mem_append.mp hx with e | e
          · obtain ⟨g1, g2⟩ := en x e
            exact ⟨g1, by rw [upd_ne g1]; exact s11 _ _ g2⟩
          · have e2 : x = (b, endsL (cd ws) y.2) := by simpa using e
            rw [e2]
            exact ⟨bD, by rw [upd_ne bD]; exact eb⟩
        · rw [List.map_append, em, List.take_add_one, ey, Option.toList_some, List.map_append]
          rfl
      · obtain ⟨s9, E, eD, el, en, em⟩ := hP
        refine ⟨D, E, rfl, s9, ⟨eD, fun x hx => (en x hx).2⟩, ?_⟩
        rw [List.length_map, List.take_length] at em
        rw [em, ← eM, List.map_map]
        rfl
    rintro σ H9 ⟨e, E, rfl, s9, hE, eE⟩
    have hc9 := hc8.same s9
    have hs9 := hs8.same s9
    have lE : E.length = cnt (cd ws) (cs z) := by
      have e := congrArg List.length eE
      rw [List.length_map, List.length_map] at e
      exact e
    have lE2 : E.length ≤ sizeLine := by
      rw [lE]
      exact Nat.le_of_lt cl
    refine ⟨_, rfl, z, rfl, zl, _, _, rfl, rfl, _, rfl, .of_le (by omega) (by omega) (by omega) (by omega), fun pp npp => ?_⟩
    have t9 := same_new (o := .lst (rgV 0 ((z.length : Int) + 1))) npp
    have hE9 := hE.same t9
    have hc10 := hc9.same t9
    have hs10 := hs9.same t9
    have ep : upd H9 pp (.lst (rgV 0 ((z.length : Int) + 1))) pp = some (.lst (rgV 0 ((z.length : Int) + 1))) := upd_same
    generalize upd H9 pp (.lst (rgV 0 ((z.length : Int) + 1))) = H10 at t9 hE9 hc10 hs10 ep
    have lp : (rgV 0 ((z.length : Int) + 1)).length = z.length + 1 := by
      rw [rgV_length]
      omega
    have itm : ∀ {j : Nat} {v : V}, (rgV 0 ((z.length : Int) + 1))[j]? = some v → j ≤ z.length ∧ v = iN j := fun {j v} h => by
      have hj := (List.getElem?_eq_some_iff.mp h).1
      rw [lp] at hj
      unfold rgV at h
      rw [List.getElem?_map, List.getElem?_range (by omega)] at h
      refine ⟨by omega, (Option.some.inj h).symm.trans (congrArg V.int ?_)⟩
      show (0 : Int) + (j : Int) = (j : Int)
      omega
    -- the places of some
    refine ⟨fun σ H' => ∃ ps_ : Addr, σ = [some (.ref a0), some (.ref a), some (.ref c), some (iN i), some (.str z), some (.ref p), y6, y7, some (.ref e), some (.ref pp), some (.ref ps_), y11, none, none, none] ∧ Same H10 H' ∧ NumAt H' ps_ (someP (cd ws) (cs z)), ?_, ?_⟩
    · refine ⟨_, rfl, pp, rfl, ⟨_, .inl (.inl ep)⟩, fun D hD => lc_do (walk_list (xs := rgV 0 ((z.length : Int) + 1))) iN (fun j => decide (0 < cnt (cd ws) ((cs z).take j) * cnt (cd ws) ((cs z).drop j))) hD ?_ (fun H' s1 => .inl (.inl (s1 _ _ ep))) (fun j v H11 H12 R N hj s11 y hR hN => ?_) (fun H11 s11 e11 => ?_)⟩
      · rw [lp]
        exact Nat.le_of_lt (small1000 (by omega))
      · obtain ⟨rfl, hv⟩ := y
        obtain ⟨hjz, rfl⟩ := itm hv
        refine ⟨wipe_set1, in_any (e := e) (E := E) (i := j) rfl rfl (by show 14 < 15; decide) (hE9.same s11) lE2 (fun H13 s13 => ?_)⟩
        rw [any_rows hC eE (by rw [csl]; exact hjz)]
        by_cases m : 0 < cnt (cd ws) ((cs z).take j) * cnt (cd ws) ((cs z).drop j)
        · rw [decide_eq_true m]
          exact iteT ⟨_, rfl, hR (decide_eq_true m) _ s13⟩
        · rw [decide_eq_false m]
          exact iteF (hN (decide_eq_false m) _ s13)
      · refine ⟨D, _, rfl, .inl ⟨.inl (.inl e11), fun p5 n5 => ⟨p5, rfl, s11.trans (same_new n5), ?_⟩⟩⟩
        unfold NumAt
        rw [upd_same, lp, ← csl]
        rfl
    rintro σ H11 ⟨p5, rfl, s11, h5⟩
    have hE11 := hE9.same s11
    have ep11 := s11 _ _ ep
    -- the places of all
    refine ⟨fun σ H' => ∃ pd : Addr, σ = [some (.ref a0), some (.ref a), some (.ref c), some (iN i), some (.str z), some (.ref p), y6, y7, some (.ref e), some (.ref pp), some (.ref p5), some (.ref pd), none, none, none] ∧ Same H11 H' ∧
      ((cnt (cd ws) (cs z) ≠ 0 ∧ NumAt H' pd (allP (cd ws) (cs z))) ∨ (cnt (cd ws) (cs z) = 0 ∧ H' pd = some (.lst [.str "message"]))), ?_, ?_⟩
    · refine ⟨_, rfl, _, .inl ⟨_, .inl (.inl hE11.1), rfl⟩, ?_⟩
      by_cases h0 : cnt (cd ws) (cs z) = 0
      · have e0 : E = [] := List.eq_nil_of_length_eq_zero (by rw [lE]; exact h0)
        have e1 : (!(E.map fun x => V.ref x.1).isEmpty) = false := by rw [e0]; rfl
        rw [e1]
        exact iteF ⟨(by decide : 1 ≤ sizeLine), fun pd nd => ⟨pd, rfl, same_new nd, .inr ⟨h0, upd_same⟩⟩⟩
      · have e1 : (!(E.map fun x => V.ref x.1).isEmpty) = true := by
          cases hEE : E with
          | nil =>
            rw [hEE] at lE
            exact absurd lE.symm h0
          | cons x E => rfl
        rw [e1]
        refine iteT ⟨_, rfl, pp, rfl, ⟨_, .inl (.inl ep11)⟩, fun D hD => lc_do (walk_list (xs := rgV 0 ((z.length : Int) + 1))) iN (fun j => decide (cnt (cd ws) ((cs z).take j) * cnt (cd ws) ((cs z).drop j) = cnt (cd ws) (cs z))) hD ?_ (fun H' s1 => .inl (.inl (s1 _ _ ep11))) (fun j v H12 H13 R N hj s12 y hR hN => ?_) (fun H12 s12 e12 => ?_)⟩
        · rw [lp]
          exact Nat.le_of_lt (small1000 (by omega))
        · obtain ⟨rfl, hv⟩ := y
          obtain ⟨hjz, rfl⟩ := itm hv
          refine ⟨wipe_set1, in_all (e := e) (E := E) (i := j) rfl rfl (by show 14 < 15; decide) (hE11.same s12) lE2 (fun H14 s14 => ?_)⟩
          rw [all_rows hC eE (by rw [csl]; exact hjz)]
          by_cases m : cnt (cd ws) ((cs z).take j) * cnt (cd ws) ((cs z).drop j) = cnt (cd ws) (cs z)
          · rw [decide_eq_true m]
            exact iteT ⟨_, rfl, hR (decide_eq_true m) _ s14⟩
          · rw [decide_eq_false m]
            exact iteF (hN (decide_eq_false m) _ s14)
        · refine ⟨D, _, rfl, .inl ⟨.inl (.inl e12), fun pd nd => ⟨pd, rfl, s12.trans (same_new nd), .inl ⟨h0, ?_⟩⟩⟩⟩
          unfold NumAt
          rw [upd_same, lp, ← csl]
          rfl
    rintro σ H12 ⟨pd, rfl, s12, hd⟩
    -- the two compared
    have hc12 := hc10.same (s11.trans s12)
    have hs12 := hs10.same (s11.trans s12)
    have h5' := h5.same s12
    have l5 : (someP (cd ws) (cs z)).length ≤ 1000 := by
      unfold someP
      have h1 := List.length_filter_le (fun a => decide (0 < cnt (cd ws) ((cs z).take a) * cnt (cd ws) ((cs z).drop a))) (List.range ((cs z).length + 1))
      rw [List.length_range, csl] at h1
      rw [csl]
      omega
    have l6 : (allP (cd ws) (cs z)).length ≤ 1000 := by
      unfold allP
      have h1 := List.length_filter_le (fun a => decide (cnt (cd ws) ((cs z).take a) * cnt (cd ws) ((cs z).drop a) = cnt (cd ws) (cs z))) (List.range ((cs z).length + 1))
      rw [List.length_range, csl] at h1
      rw [csl]
      omega
    refine ⟨_, rfl, _, rfl, c, ws, z, rfl, hc12, ok, ha, by omega, fun H13 pb s13 hb => ?_⟩
    have last : ∀ H14 pc, Same H13 H14 → Da H14 2 (.ref pc) (.ref pd) → ∀ q1, H14 q1 = none → ∀ q2, (upd H14 q1 (.lst [.ref pb, .ref pc])) q2 = none →
        Da (upd (upd H14 q1 (.lst [.ref pb, .ref pc])) q2 (.lst [.ref p5, .ref pd])) 3 (.ref q1) (.ref q2) := fun H14 pc s14 dd q1 n1 q2 n2 => by
      have t1 := same_new (o := .lst [.ref pb, .ref pc]) n1
      have t2 := same_new (o := .lst [.ref p5, .ref pd]) n2
      exact da_lst (t2 _ _ upd_same) upd_same rfl (by show 2 ≤ 1000; decide) (da2 (da_num (n := 0) (((hb.same s14).same t1).same t2) ((((h5'.same s13).same s14).same t1).same t2) l5) ((dd.same t1).same t2))
    refine ⟨_, rfl, _, rfl, c, ws, z, rfl, hc12.same s13, ok, ha, by omega, fun h0 H14 pc s14 hpc => ?_, fun h0 H14 pc s14 hpc => ?_⟩
    · rcases hd with ⟨_, hd⟩ | ⟨h1, _⟩
      · refine ⟨(by decide : 2 ≤ sizeLine), fun q1 n1 => ⟨_, rfl, _, rfl, (by decide : 2 ≤ sizeLine), fun q2 n2 => ⟨_, _, rfl, last H14 pc s14 (da_num (n := 0) hpc ((hd.same s13).same s14) l6) q1 n1 q2 n2, fun H' s' => ⟨_, rfl, iteF ?_⟩⟩⟩⟩
        have sf := ((s13.trans s14).trans ((same_new n1).trans (same_new n2))).trans s'
        exact ⟨_, _, _, _, _, _, _, _, _, rfl, hs12.same sf, hc12.same sf⟩
      · exact absurd h1 h0
    · rcases hd with ⟨h1, _⟩ | ⟨_, hd⟩
      · exact absurd h0 h1
      · refine ⟨(by decide : 2 ≤ sizeLine), fun q1 n1 => ⟨_, rfl, _, rfl, (by decide : 2 ≤ sizeLine), fun q2 n2 => ⟨_, _, rfl, last H14 pc s14 (da_msg (n := 0) (by decide) hpc ((s13.trans s14) _ _ hd)) q1 n1 q2 n2, fun H' s' => ⟨_, rfl, iteF ?_⟩⟩⟩⟩
        have sf := ((s13.trans s14).trans ((same_new n1).trans (same_new n2))).trans s'
        exact ⟨_, _, _, _, _, _, _, _, _, rfl, hs12.same sf, hc12.same sf⟩
end
end K02
/-! what the top has left, gathered -/
namespace K02
open PySem PySem.Spec PyProof.Rows L2
theorem exm_self {K : PySem.W.Frag} {S : Addr} (h1 : PySem.W.subIn K (.ref S) (.type "BaseException") = some true) (h2 : PySem.W.isClsIn K S = true) (h3 : PySem.W.typeIn K (.ref S) = some (.type "type")) (h4 : PySem.W.subIn K (.ref S) (.ref S) = some true) :
    PySem.W.exmOne K (.ref S) (.ref S) = some true := by
  have e1 : (PySem.W.subIn K (.ref S) (.type "BaseException") == some true) = true := by rw [h1] <;> rfl
  have e2 : ((PySem.W.clsIn K S).isSome && PySem.W.typeIn K (.ref S) == some (.type "type")) = true := by
    have h2' : (PySem.W.clsIn K S).isSome = true := h2
    rw [h2', h3] <;> rfl
  show (if (PySem.W.subIn K (.ref S) (.type "BaseException") == some true) = true then (if ((PySem.W.clsIn K S).isSome && PySem.W.typeIn K (.ref S) == some (.type "type")) = true then PySem.W.subIn K (.ref S) (.ref S) else none) else none) = some true
  rw [if_pos e1, if_pos e2]
  exact h4
section
variable {K : PySem.W.Frag} {h : Heap} {mg : Str → Option Value}
theorem def_mk {x : Str} {st : Stmt} {f : Addr} {oc kV dc pm cd ct : Value} {od an : Option Addr} {sl : Array (Option Value)} (X : K.In h) (G : h.Ns mainGlobals mg) (a : PySem.W.nsIn K mainGlobals x = some (some (.ref f)))
    (l : K.lookup f = some ⟨oc, od, .func (PySem.W.fnOf x x (defArgs st) (defBody st) (defScope st) .none kV dc pm an cd ct), sl⟩) (c : PySem.W.codeIn K cd x = true) (k : PySem.W.keepIn K (.ref f) = true) : DefAt K mg x st :=
  ⟨f, _, PySem.W.mg_of X G a, fun_mk (st := st) l c k⟩
theorem txt_mk {t1 t2 t3 t4 : Tok} (X : K.In h) (G : h.Ns mainGlobals mg)
    (z1 : PySem.W.nsIn K mainGlobals "len" = some none) (z2 : PySem.W.nsIn K mainGlobals "isinstance" = some none) (z3 : PySem.W.nsIn K mainGlobals "all" = some none) (z4 : PySem.W.nsIn K mainGlobals "any" = some none) (z5 : PySem.W.nsIn K mainGlobals "sum" = some none)
    (z6 : PySem.W.nsIn K mainGlobals "range" = some none) (z7 : PySem.W.nsIn K mainGlobals "enumerate" = some none) (z8 : PySem.W.nsIn K mainGlobals "tuple" = some none) (z9 : PySem.W.nsIn K mainGlobals "list" = some none) (z10 : PySem.W.nsIn K mainGlobals "int" = some none)
    (z11 : PySem.W.nsIn K mainGlobals "abs" = some none) (z12 : PySem.W.nsIn K mainGlobals "min" = some none) (z13 : PySem.W.nsIn K mainGlobals "sorted" = some none) (z14 : PySem.W.nsIn K mainGlobals "str" = some none) (z15 : PySem.W.nsIn K mainGlobals "bool" = some none)
    (c1 : PySem.W.nsIn K mainGlobals "LETTERS" = some (some (.str "abc" t1))) (c2 : PySem.W.nsIn K mainGlobals "MOST_WORDS" = some (some (.int 6 t2))) (c3 : PySem.W.nsIn K mainGlobals "LONGEST_WORD" = some (some (.int 5 t3))) (c4 : PySem.W.nsIn K mainGlobals "LONGEST_STRING" = some (some (.int 24 t4))) : Txt K mg :=
  { len := PySem.W.mg_none_of X G z1, isi := PySem.W.mg_none_of X G z2, all := PySem.W.mg_none_of X G z3, any := PySem.W.mg_none_of X G z4, sum := PySem.W.mg_none_of X G z5, rng := PySem.W.mg_none_of X G z6, enu := PySem.W.mg_none_of X G z7, tup := PySem.W.mg_none_of X G z8, lst := PySem.W.mg_none_of X G z9, int := PySem.W.mg_none_of X G z10,
    abs := PySem.W.mg_none_of X G z11, min := PySem.W.mg_none_of X G z12, srt := PySem.W.mg_none_of X G z13, str := PySem.W.mg_none_of X G z14, bool := PySem.W.mg_none_of X G z15, letters := ⟨t1, PySem.W.mg_of X G c1⟩, mw := ⟨t2, PySem.W.mg_of X G c2⟩, lw := ⟨t3, PySem.W.mg_of X G c3⟩, ls := ⟨t4, PySem.W.mg_of X G c4⟩ }
theorem badV_mk {C f1 : Addr} {nm q : Str} {N C0 : Addr} {bs : List Value} {sn : List Str} {sub : List Value} {ab : Bool} {col : Option Bool} {dd : Option Addr} {m0 m1 m2 m3 m5 : Option Value} {od1 an1 : Option Addr} {sl1 : Array (Option Value)} {oc1 dc1 pm1 cd1 ct1 : Value}
    (X : K.In h) (G : h.Ns mainGlobals mg) (aC : PySem.W.nsIn K mainGlobals "BadValue" = some (some (.ref C)))
    (xL : K.lookup C = some (excClassObj nm q C N bs [.ref C0, .type "ValueError", .type "Exception", .type "BaseException", .type "object"] true sn sub ab col dd m0 m1 m2 m3 m5 "ValueError.__new__"))
    (sa : PySem.W.findIn K (.ref C) "__setattr__" = some (some (.builtin "object.__setattr__"))) (ga : PySem.W.findIn K (.ref C) "__getattribute__" = some (some (.builtin "BaseException.__getattribute__"))) (gg : PySem.W.findIn K (.ref C) "__getattr__" = some none) (nb : PySem.W.findIn K (.ref C) "name" = some none)
    (a1 : PySem.W.findIn K (.ref C) "__init__" = some (some (.ref f1))) (t1 : PySem.W.typeIn K (.ref f1) = some (.type "function"))
    (l1 : K.lookup f1 = some ⟨oc1, od1, .func (PySem.W.fnOf "__init__" "BadValue.__init__" (PySem.BadVX.iA ⟨6, 17, 6, 21⟩ ⟨6, 23, 6, 27⟩) (PySem.BadVX.iB ⟨7, 8, 7, 12⟩ ⟨7, 8, 7, 17⟩ ⟨7, 20, 7, 24⟩ ⟨7, 8, 7, 24⟩) PySem.BadVX.iS .none .none dc1 pm1 an1 cd1 ct1), sl1⟩) (c1 : PySem.W.codeIn K cd1 "BadValue.__init__" = true)
    (kC : PySem.W.keepIn K (.ref C) = true) (eC : PySem.W.subIn K (.ref C) (.type "BaseException") = some true) (tC : PySem.W.typeIn K (.ref C) = some (.type "type")) (hC : PySem.W.hasDictIn K C = true) (iC : PySem.W.isClsIn K C = true) (sC : PySem.W.subIn K (.ref C) (.ref C) = some true) :
    PySem.BadVX.BadVTxt K mg C f1 :=
  { gC := PySem.W.mg_of X G aC, cls := ⟨nm, q, N, bs, _, sn, sub, ab, col, dd, m0, m1, m2, m3, m5, xL, rfl⟩, sa := sa, ga := ga, gg := gg, noN := nb, iC := a1, tC := t1, kC := kC, exC := eC, tyC := tC, hdC := hC, te := exm_self eC iC tC sC,
    fn := ⟨_, _, _, _, _, _, _, _, _, _, _, _, _, _, l1, c1⟩ }
theorem notP_mk {C f1 : Addr} {nm q : Str} {N C0 : Addr} {bs : List Value} {sn : List Str} {sub : List Value} {ab : Bool} {col : Option Bool} {dd : Option Addr} {m0 m1 m2 m3 m5 : Option Value} {od1 an1 : Option Addr} {sl1 : Array (Option Value)} {oc1 dc1 pm1 cd1 ct1 : Value}
    (X : K.In h) (G : h.Ns mainGlobals mg) (aC : PySem.W.nsIn K mainGlobals "NotPossible" = some (some (.ref C)))
    (xL : K.lookup C = some (excClassObj nm q C N bs [.ref C0, .type "ValueError", .type "Exception", .type "BaseException", .type "object"] true sn sub ab col dd m0 m1 m2 m3 m5 "ValueError.__new__"))
    (sa : PySem.W.findIn K (.ref C) "__setattr__" = some (some (.builtin "object.__setattr__"))) (ga : PySem.W.findIn K (.ref C) "__getattribute__" = some (some (.builtin "BaseException.__getattribute__"))) (gg : PySem.W.findIn K (.ref C) "__getattr__" = some none) (nb : PySem.W.findIn K (.ref C) "why" = some none)
    (a1 : PySem.W.findIn K (.ref C) "__init__" = some (some (.ref f1))) (t1 : PySem.W.typeIn K (.ref f1) = some (.type "function"))
    (l1 : K.lookup f1 = some ⟨oc1, od1, .func (PySem.W.fnOf "__init__" "NotPossible.__init__" (PySem.NotPX.iA ⟨14, 17, 14, 21⟩ ⟨14, 23, 14, 26⟩) (PySem.NotPX.iB ⟨15, 8, 15, 12⟩ ⟨15, 8, 15, 16⟩ ⟨15, 19, 15, 22⟩ ⟨15, 8, 15, 22⟩) PySem.NotPX.iS .none .none dc1 pm1 an1 cd1 ct1), sl1⟩) (c1 : PySem.W.codeIn K cd1 "NotPossible.__init__" = true)
    (kC : PySem.W.keepIn K (.ref C) = true) (eC : PySem.W.subIn K (.ref C) (.type "BaseException") = some true) (tC : PySem.W.typeIn K (.ref C) = some (.type "type")) (hC : PySem.W.hasDictIn K C = true) (iC : PySem.W.isClsIn K C = true) (sC : PySem.W.subIn K (.ref C) (.ref C) = some true) :
    PySem.NotPX.NotPTxt K mg C f1 :=
  { gC := PySem.W.mg_of X G aC, cls := ⟨nm, q, N, bs, _, sn, sub, ab, col, dd, m0, m1, m2, m3, m5, xL, rfl⟩, sa := sa, ga := ga, gg := gg, noN := nb, iC := a1, tC := t1, kC := kC, exC := eC, tyC := tC, hdC := hC, te := exm_self eC iC tC sC,
    fn := ⟨_, _, _, _, _, _, _, _, _, _, _, _, _, _, l1, c1⟩ }
end
theorem law_binds {K : PySem.W.Frag} {f : Addr} {fd : FuncData} (F : Fun K "law" "law" sLaw f fd) (s : Shared) (u : Value) : BindsTo s fd ⟨[u], []⟩ [("_law_script", u)] := by
  obtain ⟨oc, od, kV, doc, pm, an, cdv, ct, osl, rfl, lk, hcd⟩ := F.ex
  exact .of_eq rfl
theorem all_mk {P : Program} {w : World} {K : PySem.W.Frag} {mg : Str → Option Value} {fa CB fB CN fN : Addr} (hfa : mg "law" = some (.ref fa)) (T : Txt K mg) (TB : PySem.BadVX.BadVTxt K mg CB fB) (TN : PySem.NotPX.NotPTxt K mg CN fN)
    (d10 : DefAt K mg "is_whole" sWhole) (d11 : DefAt K mg "is_spelled" sSpelled) (d12 : DefAt K mg "is_code" sIsCode) (d13 : DefAt K mg "is_string" sIsString) (d14 : DefAt K mg "is_parse" sIsParse) (d15 : DefAt K mg "parses_of" sParsesOf) (d16 : DefAt K mg "ways_from" sWays)
    (d17 : DefAt K mg "check_code" sCheckCode) (d18 : DefAt K mg "check_string" sCheckString) (d20 : DefAt K mg "joined" sJoined) (d21 : DefAt K mg "check_parse" sCheckParse) (d22 : DefAt K mg "string_of" sStringOf) (d23 : DefAt K mg "is_message" sIsMessage) (d24 : DefAt K mg "count_parses" sCount)
    (d25 : DefAt K mg "nth_parse" sNth) (d26 : DefAt K mg "index_of_parse" sIndex) (d27 : DefAt K mg "read_at" sReadAt) (d28 : DefAt K mg "boundaries" sBounds) (d29 : DefAt K mg "common_boundaries" sCommon)
    (d31 : DefAt K mg "_law_stream" sLStream) (d32 : DefAt K mg "_law_next" sLNext) (d33 : DefAt K mg "_law_is_integer" sLIsInt) (d34 : DefAt K mg "_law_equal" sLEqual) (d35 : DefAt K mg "_law_pick" sLPick) (d36 : DefAt K mg "_law_string" sLString) (d37 : DefAt K mg "_law_code" sLCode)
    (d38 : DefAt K mg "_law_parses" sLParses) (d39 : DefAt K mg "_law_message" sLMessage) (d40 : DefAt K mg "_law_ends" sLEnds) (d41 : DefAt K mg "_law_nth" sLNth) (d42 : DefAt K mg "_law_common" sLCommon) (d43 : DefAt K mg "law" sLaw) :
    ∃ fd : FuncData, (∀ (s : Shared) (u : Value), BindsTo s fd ⟨[u], []⟩ [("_law_script", u)]) ∧ ∀ base : Heap, K.In base → base.Ns mainGlobals mg → FnOk P w K mg base CX0 7 fa fd ["_law_script"] (spLaw K) := by
  obtain ⟨f, fd, g, F⟩ := d43
  have e := hfa.symm.trans g
  cases e
  refine ⟨fd, law_binds F, fun base _ _ => ?_⟩
  have g10 : Has P w K mg base _ _ _ _ _ := has_whole T d10
  have g11 : Has P w K mg base _ _ _ _ _ := has_spelled T d11
  have g12 : Has P w K mg base _ _ _ _ _ := has_isCode T d12 g11
  have g13 : Has P w K mg base _ _ _ _ _ := has_isString T d13 g11
  have g14 : Has P w K mg base _ _ _ _ _ := has_isParse T d14 g10
  have g16 : Has P w K mg base _ _ _ _ _ := has_ways T d16
  have g15 : Has P w K mg base _ _ _ _ _ := has_parsesOf d15 g16
  have g17 : Has P w K mg base _ _ _ _ _ := has_checkCode d17 g12
  have g18 : Has P w K mg base _ _ _ _ _ := has_checkString d18 g17 g13
  have g20 : Has P w K mg base _ _ _ _ _ := has_joined T d20
  have g21 : Has P w K mg base _ _ _ _ _ := has_checkParse T d21 g17 g14
  have g27 : Has P w K mg base _ _ _ _ _ := has_readAt T d27 g15
  have g25 : Has P w K mg base _ _ _ _ _ := has_nth T TB d25 g18 g16 g10
  have g29 : Has P w K mg base _ _ _ _ _ := has_common T TN d29 g18 g15 g27
  have g32 : Has P w K mg base _ _ _ _ _ := has_next T d32
  have g33 : Has P w K mg base _ _ _ _ _ := has_isInt T d33
  have g35 : Has P w K mg base _ _ _ _ _ := has_pick T d35 g32
  have g36 : Has P w K mg base _ _ _ _ _ := has_lstr T d36 g32
  exact ok_law T F ⟨has_stream T d31, has_lcode T d37 g32 g35 g36, has_lmsg T d39 g32 g35, g36, g32, has_lpar T d38, has_lends T d40, has_equal T d34 g33 3, has_lnth TB d41 g25, has_lcommon TN d42 g29,
    has_count d24 g18 g15, has_isMessage d23 g18 g15, g25, has_index T d26 g21 g20 g16, has_stringOf d22 g21 g20, has_bounds T d28 g18 g27⟩
end K02
open PySem PySem.W PyProof.Rows
set_option maxHeartbeats 0 in
theorem PySem.Challenge.cw_syncedwords_k02_whole_parses_holds : PySem.Challenge.rw_syncedwords_k02_whole_parses.Holds := by
  w_on; o_law; k_head; (case hw => w_witness2)
  k_fill
  refine L2.walk_of (l := PySem.Challenge.rw_syncedwords_k02_whole_parses) (n := 63) (k := 7) (x := "_law_script") (CX := fun _ => L2.CX0) (sp := fun w => K02.spLaw _) rfl (by decide) rfl ⟨rfl, by decide, by decide⟩ (fun w h Y => PySem.W.kIn_of Y) ?F (fun _ _ a ns hl _ hS => ⟨a, ns, rfl, hS, fun _ => rfl⟩) (fun _ _ _ _ _ h => h)
  case F =>
    intro w mg fa h KX G hmg
    refine' K02.all_mk hmg ?T ?TB ?TN ?d10 ?d11 ?d12 ?d13 ?d14 ?d15 ?d16 ?d17 ?d18 ?d20 ?d21 ?d22 ?d23 ?d24 ?d25 ?d26 ?d27 ?d28 ?d29 ?d31 ?d32 ?d33 ?d34 ?d35 ?d36 ?d37 ?d38 ?d39 ?d40 ?d41 ?d42 ?d43
    case T =>
      refine' K02.txt_mk KX G ?z1 ?z2 ?z3 ?z4 ?z5 ?z6 ?z7 ?z8 ?z9 ?z10 ?z11 ?z12 ?z13 ?z14 ?z15 ?c1 ?c2 ?c3 ?c4
      (case z1 => k_is)
      (case z2 => k_is)
      (case z3 => k_is)
      (case z4 => k_is)
      (case z5 => k_is)
      (case z6 => k_is)
      (case z7 => k_is)
      (case z8 => k_is)
      (case z9 => k_is)
      (case z10 => k_is)
      (case z11 => k_is)
      (case z12 => k_is)
      (case z13 => k_is)
      (case z14 => k_is)
      (case z15 => k_is)
      (case c1 => k_is)
      (case c2 => k_is)
      (case c3 => k_is)
      (case c4 => k_is)
    case TB =>
      refine' K02.badV_mk KX G ?aC ?xL ?sa ?ga ?gg ?nb ?a1 ?t1 ?l1 ?c1 ?kC ?eC ?tC ?hC ?iC ?sC
      (case aC => k_is)
      (case xL => k_is)
      (case sa => k_is)
      (case ga => k_is)
      (case gg => k_is)
      (case nb => k_is)
      (case a1 => k_is)
      (case t1 => k_is)
      (case l1 => k_is)
      (case c1 => k_is)
      (case kC => k_is)
      (case eC => k_is)
      (case tC => k_is)
      (case hC => k_is)
      (case iC => k_is)
      (case sC => first | rfl | k_is)
    case TN =>
      refine' K02.notP_mk KX G ?aC ?xL ?sa ?ga ?gg ?nb ?a1 ?t1 ?l1 ?c1 ?kC ?eC ?tC ?hC ?iC ?sC
      (case aC => k_is)
      (case xL => k_is)
      (case sa => k_is)
      (case ga => k_is)
      (case gg => k_is)
      (case nb => k_is)
      (case a1 => k_is)
      (case t1 => k_is)
      (case l1 => k_is)
      (case c1 => k_is)
      (case kC => k_is)
      (case eC => k_is)
      (case tC => k_is)
      (case hC => k_is)
      (case iC => k_is)
      (case sC => first | rfl | k_is)
    case d10 => (refine' K02.def_mk KX G ?a ?l ?c ?k; (case a => k_is); (case l => k_is); (case c => k_is); (case k => k_is))
    case d11 => (refine' K02.def_mk KX G ?a ?l ?c ?k; (case a => k_is); (case l => k_is); (case c => k_is); (case k => k_is))
    case d12 => (refine' K02.def_mk KX G ?a ?l ?c ?k; (case a => k_is); (case l => k_is); (case c => k_is); (case k => k_is))
    case d13 => (refine' K02.def_mk KX G ?a ?l ?c ?k; (case a => k_is); (case l => k_is); (case c => k_is); (case k => k_is))
    case d14 => (refine' K02.def_mk KX G ?a ?l ?c ?k; (case a => k_is); (case l => k_is); (case c => k_is); (case k => k_is))
    case d15 => (refine' K02.def_mk KX G ?a ?l ?c ?k; (case a => k_is); (case l => k_is); (case c => k_is); (case k => k_is))
    case d16 => (refine' K02.def_mk KX G ?a ?l ?c ?k; (case a => k_is); (case l => k_is); (case c => k_is); (case k => k_is))
    case d17 => (refine' K02.def_mk KX G ?a ?l ?c ?k; (case a => k_is); (case l => k_is); (case c => k_is); (case k => k_is))
    case d18 => (refine' K02.def_mk KX G ?a ?l ?c ?k; (case a => k_is); (case l => k_is); (case c => k_is); (case k => k_is))
    case d20 => (refine' K02.def_mk KX G ?a ?l ?c ?k; (case a => k_is); (case l => k_is); (case c => k_is); (case k => k_is))
    case d21 => (refine' K02.def_mk KX G ?a ?l ?c ?k; (case a => k_is); (case l => k_is); (case c => k_is); (case k => k_is))
    case d22 => (refine' K02.def_mk KX G ?a ?l ?c ?k; (case a => k_is); (case l => k_is); (case c => k_is); (case k => k_is))
    case d23 => (refine' K02.def_mk KX G ?a ?l ?c ?k; (case a => k_is); (case l => k_is); (case c => k_is); (case k => k_is))
    case d24 => (refine' K02.def_mk KX G ?a ?l ?c ?k; (case a => k_is); (case l => k_is); (case c => k_is); (case k => k_is))
    case d25 => (refine' K02.def_mk KX G ?a ?l ?c ?k; (case a => k_is); (case l => k_is); (case c => k_is); (case k => k_is))
    case d26 => (refine' K02.def_mk KX G ?a ?l ?c ?k; (case a => k_is); (case l => k_is); (case c => k_is); (case k => k_is))
    case d27 => (refine' K02.def_mk KX G ?a ?l ?c ?k; (case a => k_is); (case l => k_is); (case c => k_is); (case k => k_is))
    case d28 => (refine' K02.def_mk KX G ?a ?l ?c ?k; (case a => k_is); (case l => k_is); (case c => k_is); (case k => k_is))
    case d29 => (refine' K02.def_mk KX G ?a ?l ?c ?k; (case a => k_is); (case l => k_is); (case c => k_is); (case k => k_is))
    case d31 => (refine' K02.def_mk KX G ?a ?l ?c ?k; (case a => k_is); (case l => k_is); (case c => k_is); (case k => k_is))
    case d32 => (refine' K02.def_mk KX G ?a ?l ?c ?k; (case a => k_is); (case l => k_is); (case c => k_is); (case k => k_is))
    case d33 => (refine' K02.def_mk KX G ?a ?l ?c ?k; (case a => k_is); (case l => k_is); (case c => k_is); (case k => k_is))
    case d34 => (refine' K02.def_mk KX G ?a ?l ?c ?k; (case a => k_is); (case l => k_is); (case c => k_is); (case k => k_is))
    case d35 => (refine' K02.def_mk KX G ?a ?l ?c ?k; (case a => k_is); (case l => k_is); (case c => k_is); (case k => k_is))
    case d36 => (refine' K02.def_mk KX G ?a ?l ?c ?k; (case a => k_is); (case l => k_is); (case c => k_is); (case k => k_is))
    case d37 => (refine' K02.def_mk KX G ?a ?l ?c ?k; (case a => k_is); (case l => k_is); (case c => k_is); (case k => k_is))
    case d38 => (refine' K02.def_mk KX G ?a ?l ?c ?k; (case a => k_is); (case l => k_is); (case c => k_is); (case k => k_is))
    case d39 => (refine' K02.def_mk KX G ?a ?l ?c ?k; (case a => k_is); (case l => k_is); (case c => k_is); (case k => k_is))
    case d40 => (refine' K02.def_mk KX G ?a ?l ?c ?k; (case a => k_is); (case l => k_is); (case c => k_is); (case k => k_is))
    case d41 => (refine' K02.def_mk KX G ?a ?l ?c ?k; (case a => k_is); (case l => k_is); (case c => k_is); (case k => k_is))
    case d42 => (refine' K02.def_mk KX G ?a ?l ?c ?k; (case a => k_is); (case l => k_is); (case c => k_is); (case k => k_is))
    case d43 => (refine' K02.def_mk KX G ?a ?l ?c ?k; (case a => k_is); (case l => k_is); (case c => k_is); (case k => k_is))
