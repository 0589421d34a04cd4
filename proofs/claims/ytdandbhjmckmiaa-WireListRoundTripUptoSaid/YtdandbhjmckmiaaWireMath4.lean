/-
  The plain law of lists of byte strings: a list is read back from its encoding, no proper beginning is a list, and what is read has this encoding. No walk here.
-/
import Derived.Test.YtdandbhjmckmiaaWireReadD
namespace Go.Proofs.Ytdandbhjmckmiaa
set_option linter.unusedVariables false
set_option linter.unusedSimpArgs false

/-- a number at a place -/
theorem readNum_at (pre rest : List UInt8) {n : Int} (h1 : -9223372036854775808 ≤ n) (h2 : n ≤ 9223372036854775807) :
    readNum (pre ++ (num n ++ rest)) (pre.length : Int) = (n, ((pre.length + (num n).length : Nat) : Int), 0, 0) := by
  rw [← List.append_assoc]; exact num_back pre rest h1 h2
theorem readChunk_of {bs : List UInt8} {a : Int} {k y : Nat} (h : readNum bs a = ((k : Int), (y : Int), 0, 0)) (hk : y + k ≤ bs.length) : readChunk bs a = ((bs.drop y).take k, ((y + k : Nat) : Int), 0, 0) := by
  unfold readChunk; rw [h]; simp only []; rw [if_neg (by simp), if_neg (by omega), if_neg (by omega), Int.toNat_natCast, Int.toNat_natCast]; simp
theorem readChunk_trunc_of {bs : List UInt8} {a : Int} {k y : Nat} (h : readNum bs a = ((k : Int), (y : Int), 0, 0)) (hy : y ≤ bs.length) (hk : bs.length < y + k) : readChunk bs a = ([], 0, 15, a) := by
  unfold readChunk; rw [h]; simp only []; rw [if_neg (by simp), if_neg (by omega), if_pos (by omega)]
/-- a byte string at a place -/
theorem readChunk_at (pre x rest : List UInt8) (hx : x.length ≤ 1048576) : readChunk (pre ++ (chunk x ++ rest)) (pre.length : Int) = (x, ((pre.length + (chunk x).length : Nat) : Int), 0, 0) := by
  have e : pre ++ (chunk x ++ rest) = pre ++ (num (x.length : Int) ++ (x ++ rest)) := by simp [chunk]
  have hr := readNum_at pre (x ++ rest) (n := (x.length : Int)) (by omega) (by omega)
  rw [← e] at hr
  rw [readChunk_of hr (by simp [chunk]; omega)]
  have e2 : (pre ++ (chunk x ++ rest)).drop (pre.length + (num (x.length : Int)).length) = x ++ rest := by
    rw [e, ← List.append_assoc, ← List.length_append, List.drop_left]
  rw [e2, List.take_left]
  simp [chunk, Nat.add_assoc]
theorem chunk_pos (x : List UInt8) : 0 < (chunk x).length := by
  unfold chunk; rw [List.length_append]; have := num_pos (x.length : Int); omega
theorem rdC_at (l : List (List UInt8)) : ∀ (pre rest : List UInt8), tot l ≤ 1048576 →
    rdL (readChunk (pre ++ (l.flatMap chunk ++ rest))) l.length (pre.length : Int) = (l, ((pre.length + (l.flatMap chunk).length : Nat) : Int), 0, 0) := by
  induction l with
  | nil => intro pre rest _; simp [rdL]
  | cons x l ih =>
    intro pre rest ht
    simp only [tot] at ht
    have e : pre ++ ((x :: l).flatMap chunk ++ rest) = pre ++ (chunk x ++ (l.flatMap chunk ++ rest)) := by simp
    have hr := readChunk_at pre x (l.flatMap chunk ++ rest) (by omega)
    rw [e]
    have hs := rdL_step (k := l.length) hr []
    rw [app_nil] at hs
    rw [List.length_cons, hs]
    have h2 := ih (pre ++ chunk x) rest (by omega)
    have e3 : (pre ++ chunk x) ++ (l.flatMap chunk ++ rest) = pre ++ (chunk x ++ (l.flatMap chunk ++ rest)) := by simp
    rw [e3, List.length_append] at h2
    rw [h2]
    unfold app
    simp [Nat.add_assoc]
theorem flat_pos (l : List (List UInt8)) : l.length ≤ (l.flatMap chunk).length := by
  induction l with
  | nil => simp
  | cons x l ih => have := chunk_pos x; simp only [List.flatMap_cons, List.length_append, List.length_cons]; omega
theorem listEnc_pos (l : List (List UInt8)) : l.length ≤ (listEnc l).length := by
  unfold listEnc; rw [List.length_append]; have := flat_pos l; omega
/-- a list is read back from its encoding -/
theorem readList_enc (l : List (List UInt8)) (ht : tot l ≤ 1048576) : readList (listEnc l) = (l, 0, 0) := by
  have hl := tot_len l
  have h1 := readNum_at [] (l.flatMap chunk) (n := (l.length : Int)) (by omega) (by omega)
  have e1 : [] ++ (num (l.length : Int) ++ l.flatMap chunk) = listEnc l := rfl
  rw [e1] at h1
  simp only [List.length_nil, Nat.zero_add] at h1
  have h1 : readNum (listEnc l) 0 = ((l.length : Int), ((num (l.length : Int)).length : Int), 0, 0) := h1
  have h2 := rdC_at l (num (l.length : Int)) [] ht
  rw [List.append_nil] at h2
  have e2 : num (l.length : Int) ++ l.flatMap chunk = listEnc l := rfl
  rw [e2] at h2
  have h3 : readL (readChunk (listEnc l)) (listEnc l) 0 ((listEnc l).length : Int) = (l, (((num (l.length : Int)).length + (l.flatMap chunk).length : Nat) : Int), 0, 0) := by
    rw [readL_go (k := l.length) h1 (by have := listEnc_pos l; omega), app_nil, h2]
  exact readList_whole h3 (by simp only [listEnc, List.length_append]; omega)

theorem decF_cut (k : Nat) : ∀ (i u c : Nat), i + k = 9 → u < 2 * 128 ^ k → (0 < i → 0 < u) → c < (enc u).length → decF i ((enc u).take c) = .inl 15 := by
  induction k with
  | zero =>
    intro i u c hi hu h0 hc
    rw [enc_lt (by omega)] at hc ⊢
    simp at hc
    subst hc
    rfl
  | succ k ih =>
    intro i u c hi hu h0 hc
    by_cases h : u < 128
    · rw [enc_lt h] at hc ⊢
      simp at hc
      subst hc
      rfl
    · rw [enc_ge (by omega)] at hc ⊢
      cases c with
      | zero => rfl
      | succ c =>
        rw [List.take_succ_cons]
        simp only [decF]
        rw [ofNat_toNat (u % 128 + 128) (by omega), if_neg (by omega), if_neg (by omega),
          ih (i + 1) (u / 128) c (by omega) (by rw [Nat.pow_succ] at hu; omega) (by omega) (by simpa using hc)]
theorem dec_cut (u c : Nat) (h : u < 18446744073709551616) (hc : c < (enc u).length) : dec ((enc u).take c) = .inl 15 :=
  decF_cut 9 0 u c (by omega) (by have : (2 : Nat) * 128 ^ 9 = 18446744073709551616 := by decide
                                  omega) (by omega) hc
/-- a number that is cut off -/
theorem readNum_cut (pre rest : List UInt8) {n : Int} (h1 : -9223372036854775808 ≤ n) (h2 : n ≤ 9223372036854775807) (c : Nat) (hc : c < (num n).length) :
    readNum ((pre ++ (num n ++ rest)).take (pre.length + c)) (pre.length : Int) = (0, 0, 15, (pre.length : Int)) := by
  have hlen : ((pre ++ (num n ++ rest)).take (pre.length + c)).length = pre.length + c := by rw [List.length_take, List.length_append, List.length_append]; omega
  have e : ((pre ++ (num n ++ rest)).take (pre.length + c)).drop pre.length = (num n).take c := by
    rw [List.take_append, List.take_of_length_le (by omega), Nat.add_sub_cancel_left, List.drop_left, List.take_append_of_le_length (by omega)]
  unfold readNum
  rw [if_neg (by rw [hlen]; omega), Int.toNat_natCast, e]
  show (match dec ((enc (zig n)).take c) with | .inl e => (0, 0, (e : Int), (pre.length : Int)) | .inr p => (zag p.1, (pre.length : Int) + (p.2 : Int), 0, 0)) = _
  rw [dec_cut (zig n) c (zig_lt n h1 h2) hc]
  rfl

/-- a byte string that is cut off -/
theorem readChunk_cut (pre x rest : List UInt8) (hx : x.length ≤ 1048576) (c : Nat) (hc : c < (chunk x).length) :
    readChunk ((pre ++ (chunk x ++ rest)).take (pre.length + c)) (pre.length : Int) = ([], 0, 15, (pre.length : Int)) := by
  have e : pre ++ (chunk x ++ rest) = pre ++ (num (x.length : Int) ++ (x ++ rest)) := by simp [chunk]
  have hcl : (chunk x).length = (num (x.length : Int)).length + x.length := by unfold chunk; rw [List.length_append]
  by_cases h : c < (num (x.length : Int)).length
  · have hr := readNum_cut pre (x ++ rest) (n := (x.length : Int)) (by omega) (by omega) c h
    rw [← e] at hr
    unfold readChunk
    rw [hr]
    simp
  · have hlen : ((pre ++ (chunk x ++ rest)).take (pre.length + c)).length = pre.length + c := by rw [List.length_take, List.length_append, List.length_append]; omega
    have e2 : (pre ++ (chunk x ++ rest)).take (pre.length + c) = pre ++ (num (x.length : Int) ++ (x ++ rest).take (c - (num (x.length : Int)).length)) := by
      rw [e, List.take_append, List.take_of_length_le (by omega), Nat.add_sub_cancel_left, List.take_append, List.take_of_length_le (by omega)]
    have hr := readNum_at pre ((x ++ rest).take (c - (num (x.length : Int)).length)) (n := (x.length : Int)) (by omega) (by omega)
    rw [← e2] at hr
    exact readChunk_trunc_of hr (by rw [hlen]; omega) (by rw [hlen]; omega)
theorem rdC_cut (l : List (List UInt8)) : ∀ (pre : List UInt8) (c : Nat), tot l ≤ 1048576 → c < (l.flatMap chunk).length →
    ∃ i, rdL (readChunk ((pre ++ l.flatMap chunk).take (pre.length + c))) l.length (pre.length : Int) = ([], 0, 15, i) := by
  induction l with
  | nil => intro pre c _ hc; simp at hc
  | cons x l ih =>
    intro pre c ht hc
    simp only [tot] at ht
    have e : pre ++ (x :: l).flatMap chunk = pre ++ (chunk x ++ l.flatMap chunk) := by simp
    rw [e, List.length_cons]
    by_cases h : c < (chunk x).length
    · have hr := readChunk_cut pre x (l.flatMap chunk) (by omega) c h
      have hs := rdL_fault (k := l.length) hr (by decide) []
      rw [app_nil] at hs
      exact ⟨_, hs⟩
    · obtain ⟨d, rfl⟩ : ∃ d, c = (chunk x).length + d := ⟨c - (chunk x).length, by omega⟩
      have hd : d < (l.flatMap chunk).length := by simp only [List.flatMap_cons, List.length_append] at hc; omega
      have e2 : (pre ++ (chunk x ++ l.flatMap chunk)).take (pre.length + ((chunk x).length + d)) = pre ++ (chunk x ++ (l.flatMap chunk).take d) := by
        rw [List.take_append, List.take_of_length_le (by omega), Nat.add_sub_cancel_left, List.take_append, List.take_of_length_le (by omega), Nat.add_sub_cancel_left]
      have hr := readChunk_at pre x ((l.flatMap chunk).take d) (by omega)
      rw [← e2] at hr
      have hs := rdL_step (k := l.length) hr []
      rw [app_nil] at hs
      rw [hs]
      obtain ⟨i, hi⟩ := ih (pre ++ chunk x) d (by omega) hd
      have e3 : (pre ++ chunk x) ++ l.flatMap chunk = pre ++ (chunk x ++ l.flatMap chunk) := by simp
      rw [e3, List.length_append, Nat.add_assoc] at hi
      rw [hi]
      exact ⟨i, by unfold app; simp⟩
/-- no proper beginning of an encoding is a list -/
theorem readList_cut (l : List (List UInt8)) (ht : tot l ≤ 1048576) (c : Nat) (hc : c < (listEnc l).length) : ∃ k i, (k = 15 ∨ k = 4) ∧ readList ((listEnc l).take c) = ([], k, i) := by
  have hl := tot_len l
  by_cases h : c < (num (l.length : Int)).length
  · have hr := readNum_cut [] (l.flatMap chunk) (n := (l.length : Int)) (by omega) (by omega) c h
    simp only [List.length_nil, Nat.zero_add, List.nil_append] at hr
    have hr : readNum ((listEnc l).take c) 0 = (0, 0, 15, 0) := hr
    exact ⟨15, 0, .inl rfl, readList_fault (readL_fault hr (by decide)) (by decide)⟩
  · obtain ⟨d, rfl⟩ : ∃ d, c = (num (l.length : Int)).length + d := ⟨c - (num (l.length : Int)).length, by omega⟩
    have hd : d < (l.flatMap chunk).length := by unfold listEnc at hc; rw [List.length_append] at hc; omega
    have e : (listEnc l).take ((num (l.length : Int)).length + d) = num (l.length : Int) ++ (l.flatMap chunk).take d := by
      unfold listEnc
      rw [List.take_append, List.take_of_length_le (by omega), Nat.add_sub_cancel_left]
    have hr := readNum_at [] ((l.flatMap chunk).take d) (n := (l.length : Int)) (by omega) (by omega)
    simp only [List.length_nil, Nat.zero_add, List.nil_append] at hr
    rw [← e] at hr
    have hr : readNum ((listEnc l).take ((num (l.length : Int)).length + d)) 0 = ((l.length : Int), ((num (l.length : Int)).length : Int), 0, 0) := hr
    have hlen : ((listEnc l).take ((num (l.length : Int)).length + d)).length = (num (l.length : Int)).length + d := by rw [List.length_take]; omega
    by_cases hm : (((listEnc l).take ((num (l.length : Int)).length + d)).length : Int) < (l.length : Int)
    · exact ⟨4, 0, .inr rfl, readList_fault (readL_range hr (.inr hm)) (by decide)⟩
    · obtain ⟨i, hi⟩ := rdC_cut l (num (l.length : Int)) d ht hd
      have e5 : num (l.length : Int) ++ l.flatMap chunk = listEnc l := rfl
      rw [e5] at hi
      have h3 : readL (readChunk ((listEnc l).take ((num (l.length : Int)).length + d))) ((listEnc l).take ((num (l.length : Int)).length + d)) 0 (((listEnc l).take ((num (l.length : Int)).length + d)).length : Int) = ([], 0, 15, i) := by
        rw [readL_go (k := l.length) hr (by omega), app_nil, hi]
      exact ⟨15, i, .inl rfl, readList_fault h3 (by decide)⟩

/-- what a number was read from -/
theorem readNum_inv {bs : List UInt8} {a x : Int} {y : Nat} (hl : bs.length ≤ 9223372036854775807) (h : readNum bs a = (x, (y : Int), 0, 0)) : ∃ k : Nat, a = (k : Int) ∧ k ≤ y ∧ y ≤ bs.length ∧ (bs.drop k).take (y - k) = num x := by
  rcases readNum_or bs a hl with ⟨c, i, hc, hr⟩ | ⟨k, z, j, rfl, hd, hr, h1, h2, _⟩
  · rw [hr] at h
    simp only [Prod.mk.injEq] at h
    exact absurd h.2.2.1 hc
  · rw [hr] at h
    simp only [Prod.mk.injEq] at h
    obtain ⟨rfl, hy, _⟩ := h
    obtain ⟨e1, e2, e3, e4⟩ := dec_inv hd
    refine ⟨k, rfl, by omega, by omega, ?_⟩
    rw [show y - k = j by omega, e1]
    unfold num
    rw [zig_zag]
theorem take_two (l : List UInt8) (i j k : Nat) (h1 : i ≤ j) (h2 : j ≤ k) : (l.drop i).take (k - i) = (l.drop i).take (j - i) ++ (l.drop j).take (k - j) := by
  have e : l.drop j = (l.drop i).drop (j - i) := by rw [List.drop_drop]; congr 1; omega
  rw [e, show k - i = (j - i) + (k - j) by omega, List.take_add]
theorem readChunk_inv {bs : List UInt8} {a : Int} {x : List UInt8} {y : Nat} (hl : bs.length ≤ 9223372036854775807) (h : readChunk bs a = (x, (y : Int), 0, 0)) : ∃ k : Nat, a = (k : Int) ∧ k ≤ y ∧ y ≤ bs.length ∧ (bs.drop k).take (y - k) = chunk x := by
  rcases readNum_next (bs := bs) (a := a) hl with ⟨c, i, hc, hr⟩ | ⟨n, z, hr, h1, h2, h3, h4⟩
  · unfold readChunk at h
    rw [hr] at h
    simp only [] at h
    rw [if_pos hc] at h
    simp only [Prod.mk.injEq] at h
    exact absurd h.2.2.1 hc
  · obtain ⟨k, rfl, hk1, hk2, hk3⟩ := readNum_inv hl hr
    unfold readChunk at h
    rw [hr] at h
    simp only [] at h
    rw [if_neg (by simp)] at h
    by_cases hn : n < 0
    · rw [if_pos hn] at h; simp only [Prod.mk.injEq] at h; omega
    · rw [if_neg hn] at h
      by_cases ht : (bs.length : Int) - (z : Int) < n
      · rw [if_pos ht] at h; simp only [Prod.mk.injEq] at h; omega
      · rw [if_neg ht] at h
        simp only [Prod.mk.injEq] at h
        obtain ⟨rfl, hy, _⟩ := h
        obtain ⟨m, rfl⟩ := Int.eq_ofNat_of_zero_le (show 0 ≤ n by omega)
        rw [Int.toNat_natCast, Int.toNat_natCast]
        refine ⟨k, rfl, by omega, by omega, ?_⟩
        rw [take_two bs k z y hk1 (by omega), hk3]
        unfold chunk
        rw [List.length_take, List.length_drop, show min m (bs.length - z) = m by omega, show y - z = m by omega]
theorem rdC_inv {bs : List UInt8} (hl : bs.length ≤ 9223372036854775807) (k : Nat) : ∀ (y : Nat) (l : List (List UInt8)) (z : Nat), y ≤ bs.length → rdL (readChunk bs) k (y : Int) = (l, (z : Int), 0, 0) → y ≤ z ∧ z ≤ bs.length ∧ l.length = k ∧ (bs.drop y).take (z - y) = l.flatMap chunk := by
  induction k with
  | zero =>
    intro y l z hy h
    simp only [rdL, Prod.mk.injEq] at h
    obtain ⟨rfl, h2, _⟩ := h
    obtain rfl : y = z := by omega
    simp [hy]
  | succ k ih =>
    intro y l z hy h
    rcases readChunk_next (bs := bs) (a := (y : Int)) hl with ⟨cd, ix, hcd, hr⟩ | ⟨x, y', hr, h1, h2⟩
    · have hs := rdL_fault (k := k) hr hcd []
      rw [app_nil] at hs
      rw [hs] at h
      simp only [Prod.mk.injEq] at h
      exact absurd h.2.2.1 hcd
    · have hs := rdL_step (k := k) hr []
      rw [app_nil] at hs
      rw [hs] at h
      obtain ⟨k', hk', hk1, hk2, hk3⟩ := readChunk_inv hl hr
      obtain rfl : y = k' := by omega
      unfold app at h
      split at h
      · rename_i hne
        rw [h] at hne
        exact absurd rfl hne
      · simp only [Prod.mk.injEq] at h
        obtain ⟨rfl, h5⟩ := h
        obtain ⟨e1, e2, e3, e4⟩ := ih y' _ z h2 (by rw [← h5])
        refine ⟨by omega, e2, by simp [e3], ?_⟩
        rw [take_two bs y y' z hk1 e1, hk3, e4]
        simp
/-- what is read as a list has this encoding -/
theorem readList_inv {bs : List UInt8} {l : List (List UInt8)} {i : Int} (hl : bs.length ≤ 9223372036854775807) (h : readList bs = (l, 0, i)) : listEnc l = bs := by
  rcases readLC_or hl 0 (bs.length : Int) with ⟨c, j, hc, hr⟩ | ⟨m, y, hr, _, hy⟩
  · rw [readList_fault hr hc] at h
    simp only [Prod.mk.injEq] at h
    exact absurd h.2.1 hc
  · by_cases hlt : (y : Int) < (bs.length : Int)
    · rw [readList_short hr hlt] at h
      simp at h
    · rw [readList_whole hr hlt] at h
      simp only [Prod.mk.injEq] at h
      obtain ⟨rfl, _⟩ := h
      rcases readNum_next (bs := bs) (a := 0) hl with ⟨c, j, hc, hn⟩ | ⟨x, z, hn, h1, h2, h3, h4⟩
      · rw [readL_fault hn hc] at hr
        simp only [Prod.mk.injEq] at hr
        exact absurd hr.2.2.1 hc
      · by_cases hx : x < 0 ∨ (bs.length : Int) < x
        · rw [readL_range hn hx] at hr
          simp at hr
        · obtain ⟨k, rfl⟩ := Int.eq_ofNat_of_zero_le (show 0 ≤ x by omega)
          rw [readL_go hn (by omega), app_nil] at hr
          obtain ⟨e1, e2, e3, e4⟩ := rdC_inv hl k z _ y h2 hr
          obtain ⟨k0, hk0, hk1, hk2, hk3⟩ := readNum_inv hl hn
          obtain rfl : k0 = 0 := by omega
          unfold listEnc
          rw [e3, ← hk3, ← e4, ← take_two bs 0 z y (by omega) e1, List.drop_zero]
          exact List.take_of_length_le (by omega)
end Go.Proofs.Ytdandbhjmckmiaa
