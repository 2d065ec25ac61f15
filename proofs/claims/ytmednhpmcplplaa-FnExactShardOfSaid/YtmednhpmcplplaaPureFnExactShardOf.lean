/- FnExactShardOf: the program's ShardOf and the reference's ShardOf answer the same for all arguments (a row of at most 2^20 cells, as the law asks): the statement over numbers and lists. No further conditions. -/
import Derived.Test.YtmednhpmcplplaaPFnExactShardOfx2
namespace Go.Proofs.Ytmednhpmcplplaa.Pure
open Go.RowKit Go.Proofs.Ytmednhpmcplplaa.PFnExactShardOf Go.Proofs.YtmednhpmcplplaaW.PrintWords Go.Proofs.YtmednhpmcplplaaW.PrintLast

theorem wrap_next {i : Int} {n : Nat} (h0 : 0 ≤ i) (h : i < (n : Int)) (hn : n ≤ 1048576) : wrap64 (i + 1) = i + 1 := by
  unfold wrap64
  omega

theorem in_eq (a b c : Int) : impl_in.f a b c = spec_l1In.f a b c := rfl

theorem in_some (a b c : Int) : ∃ r, spec_l1In.f a b c = some r := by
  unfold spec_l1In.f; split <;> exact ⟨_, rfl⟩

theorem rowLoop_eq (l : List Int) : ∀ (k : Nat) (i : Int), impl_RowFault.l0 k l (l.length : Int) i = spec_RowFault.l0 k l i
  | 0, _ => rfl
  | k + 1, i => by
    simp only [impl_RowFault.l0, spec_RowFault.l0, in_eq, rowLoop_eq l k]
    by_cases h : i < (l.length : Int)
    · simp only [if_pos h]
    · simp only [if_neg h]

theorem row_eq (k : Nat) (l : List Int) : impl_RowFault.f k l = spec_RowFault.f k l := by
  unfold impl_RowFault.f spec_RowFault.f
  rw [rowLoop_eq]

theorem hashLoop_eq (l : List Int) : ∀ (k : Nat) (h i : Int), impl_HashRow.l0 k h l (l.length : Int) i = spec_HashRow.l0 k l h i
  | 0, _, _ => rfl
  | k + 1, h, i => by
    simp only [impl_HashRow.l0, spec_HashRow.l0, hashLoop_eq l k]
    by_cases c : i < (l.length : Int)
    · simp only [if_pos c]
    · simp only [if_neg c]

theorem hash_eq (k : Nat) (l : List Int) : impl_HashRow.f k l = spec_HashRow.f k l := by
  unfold impl_HashRow.f spec_HashRow.f
  rw [hashLoop_eq]

theorem shard_eq (k : Nat) (a : Int) (l : List Int) (w : Int) : impl_shardOf.f k a l w = spec_l6Shard.f k a l w := by
  unfold impl_shardOf.f spec_l6Shard.f
  rw [hash_eq]

theorem rowLoop_some (l : List Int) (hl : l.length ≤ 1048576) (d : Nat) : ∀ (k : Nat) (i : Int), 0 ≤ i → i ≤ l.length → (l.length : Int) - i = d → d < k →
    ∃ r, spec_RowFault.l0 k l i = some r := by
  induction d with
  | zero =>
    intro k i h0 h1 hd hk
    obtain ⟨k, rfl⟩ : ∃ m, k = m + 1 := ⟨k - 1, by omega⟩
    exact ⟨0, by simp only [spec_RowFault.l0]; rw [if_neg (by omega)]⟩
  | succ d ih =>
    intro k i h0 h1 hd hk
    obtain ⟨k, rfl⟩ : ∃ m, k = m + 1 := ⟨k - 1, by omega⟩
    have hlt : i < (l.length : Int) := by omega
    obtain ⟨b, hb⟩ := in_some (rd l i) (-1000000000) 1000000000
    simp only [spec_RowFault.l0]
    rw [if_pos hlt, if_pos h0, hb, wrap_next h0 hlt hl]
    simp only [Option.bind_some]
    split
    · exact ih k (i + 1) (by omega) (by omega) (by omega) (by omega)
    · exact ⟨_, rfl⟩

theorem row_some (l : List Int) (hl : l.length ≤ 1048576) (k : Nat) (hk : l.length < k) : ∃ r, spec_RowFault.f k l = some r := by
  unfold spec_RowFault.f
  split
  · exact ⟨_, rfl⟩
  · exact rowLoop_some l hl l.length k 0 (by omega) (by omega) (by omega) hk

theorem hashLoop_some (l : List Int) (hl : l.length ≤ 1048576) (d : Nat) : ∀ (k : Nat) (h i : Int), 0 ≤ i → i ≤ l.length → (l.length : Int) - i = d → d < k →
    ∃ r, spec_HashRow.l0 k l h i = some r := by
  induction d with
  | zero =>
    intro k h i h0 h1 hd hk
    obtain ⟨k, rfl⟩ : ∃ m, k = m + 1 := ⟨k - 1, by omega⟩
    exact ⟨h, by simp only [spec_HashRow.l0]; rw [if_neg (by omega)]⟩
  | succ d ih =>
    intro k h i h0 h1 hd hk
    obtain ⟨k, rfl⟩ : ∃ m, k = m + 1 := ⟨k - 1, by omega⟩
    have hlt : i < (l.length : Int) := by omega
    simp only [spec_HashRow.l0]
    rw [if_pos hlt, if_pos h0, wrap_next h0 hlt hl]
    exact ih k _ (i + 1) (by omega) (by omega) (by omega) (by omega)

theorem hash_some (l : List Int) (hl : l.length ≤ 1048576) (k : Nat) (hk : l.length < k) : ∃ r, spec_HashRow.f k l = some r := by
  unfold spec_HashRow.f
  exact hashLoop_some l hl l.length k 17 0 (by omega) (by omega) (by omega) hk

theorem asked (a w : Int) : (spec_l6Asked.f a w = some 0 ∧ impl_areWorkers.f a w = some true ∧ 1 ≤ a ∧ 0 ≤ w) ∨ (spec_l6Asked.f a w = some 3 ∧ impl_areWorkers.f a w = some false) := by
  unfold spec_l6Asked.f impl_areWorkers.f
  simp only [in_eq]
  unfold spec_l1In.f
  by_cases h1 : a ≥ 1
  · rw [if_pos h1]
    by_cases h2 : a ≤ 3
    · by_cases h3 : w ≥ 0
      · rw [if_pos h3]
        by_cases h4 : w ≤ 4
        · simp [h2, h4]; omega
        · simp [h2, h4]
      · rw [if_neg h3]; simp [h2]
    · simp [h2]
  · rw [if_neg h1]; simp

theorem same (k : Nat) (a : Int) (l : List Int) (w : Int) (hl : l.length ≤ 1048576) (hk : l.length < k) :
    ∃ r, spec_ShardOf.f k a l w = some r ∧ impl_ShardOf.f k a l w = some r := by
  unfold spec_ShardOf.f impl_ShardOf.f
  rcases asked a w with ⟨h1, h2, ha, hw⟩ | ⟨h1, h2⟩
  · rw [h1, h2, row_eq]
    obtain ⟨r, hr⟩ := row_some l hl k hk
    rw [hr]
    simp only [Option.bind_some, if_true, impl_size_int64.f, shard_eq]
    by_cases h0 : r = 0
    · simp only [if_pos h0]
      by_cases hlt : (l.length : Int) < w
      · simp only [if_pos hlt]; exact ⟨_, rfl, rfl⟩
      · simp only [if_neg hlt]
        have hs : ∃ t, spec_l6Shard.f k a l w = some t := by
          unfold spec_l6Shard.f
          rw [if_pos hw, if_pos (by omega)]
          obtain ⟨t, ht⟩ := hash_some (l.take w.toNat) (by rw [List.length_take]; omega) k (by rw [List.length_take]; omega)
          rw [ht]
          simp only [Option.bind_some]
          rw [if_neg (by omega)]
          exact ⟨_, rfl⟩
        obtain ⟨t, ht⟩ := hs
        rw [ht]
        exact ⟨_, rfl, rfl⟩
    · simp only [if_neg h0]; exact ⟨_, rfl, rfl⟩
  · rw [h1, h2]
    exact ⟨(3, 0), by simp, by simp⟩

theorem set_next (l m : List Int) (i : Nat) (hi : i < l.length) (hm : m.length = l.length) (hp : m.take i = l.take i) :
    (m.set i (l.getD i 0)).take (i + 1) = l.take (i + 1) := by
  apply List.ext_getElem?
  intro j
  have hp2 := congrArg (fun x => x[j]?) hp
  simp only [List.getElem?_take] at hp2
  simp only [List.getElem?_take, List.getElem?_set]
  by_cases h : i = j
  · subst h
    simp [hm, hi, List.getD_eq_getElem?_getD]
  · by_cases hj : j < i
    · rw [if_neg h, if_pos (show j < i + 1 by omega), if_pos (show j < i + 1 by omega)]
      simpa [hj] using hp2
    · rw [if_neg (show ¬ j < i + 1 by omega), if_neg (show ¬ j < i + 1 by omega)]

theorem toLoop (l : List Int) (hl : l.length ≤ 1048576) (d : Nat) : ∀ (k : Nat) (m : List Int) (i : Nat), i ≤ l.length → l.length - i = d → d < k → m.length = l.length → m.take i = l.take i →
    laws_toInt64S.l0 k l m (i : Int) = some l := by
  induction d with
  | zero =>
    intro k m i h1 hd hk hm hp
    obtain ⟨k, rfl⟩ : ∃ m, k = m + 1 := ⟨k - 1, by omega⟩
    simp only [laws_toInt64S.l0]
    rw [if_neg (by omega)]
    rw [List.take_of_length_le (by omega), List.take_of_length_le (by omega)] at hp
    rw [hp]
  | succ d ih =>
    intro k m i h1 hd hk hm hp
    obtain ⟨k, rfl⟩ : ∃ m, k = m + 1 := ⟨k - 1, by omega⟩
    simp only [laws_toInt64S.l0]
    rw [if_pos (by omega), if_pos (by omega), if_pos (by omega), wrap_next (n := l.length) (by omega) (by omega) hl]
    have := ih k (m.set i (l.getD i 0)) (i + 1) (by omega) (by omega) (by omega) (by rw [List.length_set]; exact hm) (set_next l m i (by omega) hm hp)
    simpa [rd] using this

theorem to_same (l : List Int) (hl : l.length ≤ 1048576) (k : Nat) (hk : l.length < k) : laws_toInt64S.f k l = some l := by
  unfold laws_toInt64S.f
  rw [if_pos (by omega), if_pos (by omega)]
  exact toLoop l hl l.length k _ 0 (by omega) (by omega) hk (by simp) rfl

theorem eqLoop (l : List Int) (hl : l.length ≤ 1048576) (d : Nat) : ∀ (k : Nat) (i : Int), 0 ≤ i → i ≤ l.length → (l.length : Int) - i = d → d < k →
    laws_eqInt64S.l0 k l l i = some true := by
  induction d with
  | zero =>
    intro k i h0 h1 hd hk
    obtain ⟨k, rfl⟩ : ∃ m, k = m + 1 := ⟨k - 1, by omega⟩
    simp only [laws_eqInt64S.l0]; rw [if_neg (by omega)]
  | succ d ih =>
    intro k i h0 h1 hd hk
    obtain ⟨k, rfl⟩ : ∃ m, k = m + 1 := ⟨k - 1, by omega⟩
    have hlt : i < (l.length : Int) := by omega
    simp only [laws_eqInt64S.l0]
    rw [if_pos hlt, if_pos h0, if_pos hlt, if_pos trivial, wrap_next h0 hlt hl]
    exact ih k (i + 1) (by omega) (by omega) (by omega) (by omega)

theorem eq_same (l : List Int) (hl : l.length ≤ 1048576) (k : Nat) (hk : l.length < k) : laws_eqInt64S.f k l l = some true := by
  unfold laws_eqInt64S.f
  rw [if_pos rfl]
  exact eqLoop l hl l.length k 0 (by omega) (by omega) (by omega) hk

theorem FnExactShardOf : laws_FnExactShardOf.Pure := by
  intro a l w _ _ _ _ _
  refine ⟨l.length + 1, ?_⟩
  unfold laws_FnExactShardOf.f
  by_cases h : (l.length : Int) > 1048576
  · rw [if_pos h]
  · rw [if_neg h]
    have hl : l.length ≤ 1048576 := by omega
    rw [to_same l hl _ (by omega)]
    obtain ⟨⟨r1, r2⟩, h1, h2⟩ := same (l.length + 1) a l w hl (by omega)
    simp only [Option.bind_some]
    rw [h1]
    simp only [Option.bind_some]
    rw [h2]
    simp [laws_eqIntResult.f, eq_same l hl (l.length + 1) (by omega)]

end Go.Proofs.Ytmednhpmcplplaa.Pure
