/- Packets' texts, in plain Lean: how one is written, cut at blanks, and read back. -/
import Derived.Test.YtphojlkljlnfjaaDoorPk
import Derived.Test.YtphojlkljlnfjaaDoorPkOk
import Derived.Lib.Split
import Derived.Lib.CountLaws
import Derived.Lib.AtoiAll
import Derived.Lib.ItoaNum
namespace Go.Proofs.YtphojlkljlnfjaaDoor
set_option maxRecDepth 100000
set_option linter.unusedVariables false
set_option linter.unusedSimpArgs false
open Go.RowKit
/-- A text, cut at each blank; what has been read since the last one stands ahead. -/
def cutA : List UInt8 → List UInt8 → List (List UInt8)
  | cur, [] => [cur]
  | cur, c :: r => if c = 32 then cur :: cutA [] r else cutA (cur ++ [c]) r
theorem cutA_run : ∀ (a cur r : List UInt8), (∀ c ∈ a, c ≠ 32) → cutA cur (a ++ r) = cutA (cur ++ a) r
  | [], cur, r, _ => by simp
  | c :: a, cur, r, h => by
    rw [List.cons_append, cutA, if_neg (h c (by simp)), cutA_run a (cur ++ [c]) r (fun d hd => h d (by simp [hd]))]
    simp
theorem cutA_blank (a r : List UInt8) (h : ∀ c ∈ a, c ≠ 32) : cutA [] (a ++ 32 :: r) = a :: cutA [] r := by
  rw [cutA_run a [] _ h, List.nil_append, cutA, if_pos rfl]
theorem cutA_last (a : List UInt8) (h : ∀ c ∈ a, c ≠ 32) : cutA [] a = [a] := by
  have := cutA_run a [] [] h
  simpa [cutA] using this
theorem index_none32 : ∀ (a : List UInt8), (∀ c ∈ a, c ≠ 32) → Lib.index a [32] = -1
  | [], _ => rfl
  | c :: a, h => by
    rw [Lib.index_one]
    unfold Lib.indexByte
    rw [if_neg (by simpa using h c (by simp)), ← Lib.index_one, index_none32 a (fun d hd => h d (by simp [hd]))]
    rfl
theorem index_at32 : ∀ (a r : List UInt8), (∀ c ∈ a, c ≠ 32) → Lib.index (a ++ 32 :: r) [32] = a.length
  | [], r, _ => by rw [Lib.index_one]; rfl
  | c :: a, r, h => by
    rw [Lib.index_one, List.cons_append]
    unfold Lib.indexByte
    rw [if_neg (by simpa using h c (by simp)), ← Lib.index_one, index_at32 a r (fun d hd => h d (by simp [hd])), if_neg (by simp)]
    simp
theorem parts32 : ∀ s : List UInt8, (∀ c ∈ s, c ≠ 32) ∨ ∃ a r, s = a ++ 32 :: r ∧ ∀ c ∈ a, c ≠ 32
  | [] => .inl (by simp)
  | c :: s => by
    by_cases h : c = 32
    · exact .inr ⟨[], s, by simp [h], by simp⟩
    · rcases parts32 s with h1 | ⟨a, r, rfl, h1⟩
      · exact .inl (by simp; exact ⟨h, h1⟩)
      · exact .inr ⟨c :: a, r, by simp, by simp; exact ⟨h, h1⟩⟩
/-- What the library's Split gives. -/
theorem split_cutA : ∀ (n : Nat) (s : List UInt8), s.length ≤ n → Lib.splitK [32] 0 (Lib.count s [32]) s = cutA [] s := by
  intro n
  induction n with
  | zero =>
    intro s hs
    obtain rfl : s = [] := List.eq_nil_of_length_eq_zero (by omega)
    rfl
  | succ n ih =>
    intro s hs
    rcases parts32 s with h | ⟨a, r, rfl, h⟩
    · rw [Lib.count_miss (index_none32 s h), cutA_last s h]
      rfl
    · have hi := index_at32 a r h
      have hd : (a ++ 32 :: r).drop (a.length + 1) = r := by
        rw [← List.drop_drop, List.drop_left]
        rfl
      rw [Lib.count_hit (by simp) hi, cutA_blank a r h, Nat.add_comm 1, Lib.splitK, hi, if_neg (by simp)]
      simp only [Int.toNat_natCast, List.length_singleton, Nat.add_zero, List.take_left, hd]
      rw [ih r (by simp at hs; omega)]
theorem split_count (s : List UInt8) : Lib.count s [32] + 1 = (cutA [] s).length := by
  suffices H : ∀ (n : Nat) (s : List UInt8), s.length ≤ n → Lib.count s [32] + 1 = (cutA [] s).length from H s.length s (Nat.le_refl _)
  intro n
  induction n with
  | zero =>
    intro s hs
    obtain rfl : s = [] := List.eq_nil_of_length_eq_zero (by omega)
    rfl
  | succ n ih =>
    intro s hs
    rcases parts32 s with h | ⟨a, r, rfl, h⟩
    · rw [Lib.count_miss (index_none32 s h), cutA_last s h]; rfl
    · have hi := index_at32 a r h
      have hd : (a ++ 32 :: r).drop (a.length + 1) = r := by
        rw [← List.drop_drop, List.drop_left]
        rfl
      rw [Lib.count_hit (by simp) hi, cutA_blank a r h, List.length_singleton, hd, List.length_cons, ← ih r (by simp at hs; omega)]
      omega
theorem cutA_len : ∀ (s cur : List UInt8), ∀ x ∈ cutA cur s, x.length ≤ cur.length + s.length
  | [], cur, x, h => by simp [cutA] at h; simp [h]
  | c :: s, cur, x, h => by
    unfold cutA at h
    split at h
    · rcases List.mem_cons.1 h with rfl | h
      · simp
      · have := cutA_len s [] x h
        simp at this ⊢
        omega
    · have := cutA_len s _ x h
      simp at this ⊢
      omega
/-- A number from 0 to 99, in decimals. -/
def decS (n : Int) : List UInt8 := Lib.decDigits n.toNat
theorem decS_one {n : Int} (h : n < 10) : decS n = [UInt8.ofNat (48 + n.toNat)] := Lib.decDigits_one (by omega)
theorem decS_two {n : Int} (h : 10 ≤ n) (h2 : n < 100) : decS n = [UInt8.ofNat (48 + n.toNat / 10), UInt8.ofNat (48 + n.toNat % 10)] := Lib.decDigits_two (by omega) (by omega)
theorem dig_nat (k : Nat) (h : k < 10) : (UInt8.ofNat (48 + k)).toNat = 48 + k := by simp; omega
theorem decS_len {n : Int} (h2 : n < 100) : 1 ≤ (decS n).length ∧ (decS n).length ≤ 2 := by
  by_cases h : n < 10
  · rw [decS_one h]; simp
  · rw [decS_two (by omega) h2]; simp
theorem dig_ne (k : Nat) (h : k < 10) : UInt8.ofNat (48 + k) ≠ 32 := fun e => by
  have h1 := dig_nat k h
  rw [e] at h1
  have h2 : (32 : UInt8).toNat = 32 := rfl
  omega
theorem decS_ne {n : Int} (h2 : n < 100) : ∀ c ∈ decS n, c ≠ 32 := by
  by_cases h : n < 10
  · rw [decS_one h]
    intro c hc
    rw [List.mem_singleton.1 hc]
    exact dig_ne _ (by omega)
  · rw [decS_two (by omega) h2]
    intro c hc
    simp only [List.mem_cons, List.not_mem_nil, or_false] at hc
    rcases hc with rfl | rfl
    · exact dig_ne _ (by omega)
    · exact dig_ne _ (by omega)
theorem pu_one {c : UInt8} (h : 48 ≤ c.toNat ∧ c.toNat ≤ 57) (r : List UInt8) (acc : Nat) (ha : acc < 1000) : Lib.parseUint10 acc (c :: r) = Lib.parseUint10 (acc * 10 + (c.toNat - 48)) r := by
  rw [Lib.parseUint10, if_pos h, if_neg (by omega), if_neg (by omega)]
theorem atoi_of {c : UInt8} {r : List UInt8} {u : Nat} (hc : 48 ≤ c.toNat) (hm : Lib.parseUint10 0 (c :: r) = .ok u) (hu : u < 1000) : Lib.atoiAll (c :: r) = .ok (u : Int) := by
  have hp : Lib.parseMag (c :: r) = .ok u := by unfold Lib.parseMag; rw [if_neg (by simp)]; exact hm
  have n1 : ¬ (c.toNat = 43 ∨ c.toNat = 45) := by omega
  have n2 : ¬ (c.toNat = 45) := by omega
  have n3 : ¬ (9223372036854775808 ≤ u) := by omega
  unfold Lib.atoiAll
  simp only [n1, if_false]
  rw [hp]
  simp only [n2, n3, and_false, false_and, if_false]
/-- strconv.Atoi of such a text. -/
theorem atoi_decS {n : Int} (h1 : 0 ≤ n) (h2 : n < 100) : Lib.atoiAll (decS n) = .ok n := by
  obtain ⟨m, rfl⟩ : ∃ m : Nat, n = (m : Int) := ⟨n.toNat, by omega⟩
  by_cases h : (m : Int) < 10
  · rw [decS_one h, Int.toNat_natCast]
    have e := dig_nat m (by omega)
    refine atoi_of (by omega) ?_ (by omega)
    rw [pu_one (by omega) _ _ (by omega), e, Lib.parseUint10]
    congr 1
    omega
  · rw [decS_two (by omega) h2, Int.toNat_natCast]
    have e1 := dig_nat (m / 10) (by omega)
    have e2 := dig_nat (m % 10) (by omega)
    refine atoi_of (by omega) ?_ (by omega)
    rw [pu_one (by omega) _ _ (by omega), e1, pu_one (by omega) _ _ (by omega), e2, Lib.parseUint10]
    congr 1
    omega
/-- The reference's reading of such a text. -/
def digV (b : UInt8) : Option Int := if b.toNat < 48 ∨ 57 < b.toNat then none else some ((b.toNat : Int) - 48)
def decV : List UInt8 → Int
  | [a] => match digV a with | none => -1 | some x => x
  | [a, b] => match digV a with | none => -1 | some x => match digV b with | none => -1 | some y => 10 * x + y
  | _ => -1
theorem digV_dig (k : Nat) (h : k < 10) : digV (UInt8.ofNat (48 + k)) = some (k : Int) := by
  unfold digV
  rw [dig_nat k h, if_neg (by omega)]
  congr 1
  omega
theorem decV_decS {n : Int} (h1 : 0 ≤ n) (h2 : n < 100) : decV (decS n) = n := by
  by_cases h : n < 10
  · rw [decS_one h, decV, digV_dig _ (by omega)]
    simp only []
    omega
  · rw [decS_two (by omega) h2, decV, digV_dig _ (by omega), digV_dig _ (by omega)]
    simp only []
    omega
theorem decV_64 (l : List UInt8) : -1 ≤ decV l ∧ decV l ≤ 1000 := by
  have hd : ∀ b x, digV b = some x → 0 ≤ x ∧ x ≤ 9 := by
    intro b x h
    unfold digV at h
    split at h
    · cases h
    · simp at h; omega
  unfold decV
  split
  · split
    · omega
    · rename_i h; have := hd _ _ h; omega
  · split
    · omega
    · split
      · omega
      · rename_i h1 _ _ h2; have := hd _ _ h1; have := hd _ _ h2; omega
  · omega
/-- A packet's text. -/
def txt (p : Pk) : List UInt8 := decS p.seq ++ 32 :: (decS p.kind ++ 32 :: (decS p.frm ++ 32 :: (decS p.dst ++ 32 :: (decS p.sum ++ 32 :: (decS p.til ++ 32 :: decS p.ver)))))
def txtV (p : Pk) : List UInt8 := if okPk p = true then txt p else []
structure Pk.small (p : Pk) : Prop where
  seq : 0 ≤ p.seq ∧ p.seq < 100
  kind : 0 ≤ p.kind ∧ p.kind < 100
  frm : 0 ≤ p.frm ∧ p.frm < 100
  dst : 0 ≤ p.dst ∧ p.dst < 100
  sum : 0 ≤ p.sum ∧ p.sum < 100
  til : 0 ≤ p.til ∧ p.til < 100
  ver : 0 ≤ p.ver ∧ p.ver < 100
theorem okPk_small {p : Pk} (h : okPk p = true) : p.small := by
  have := okPk_iff.1 h
  constructor <;> omega
theorem txt_cut {p : Pk} (h : p.small) : cutA [] (txt p) = [decS p.seq, decS p.kind, decS p.frm, decS p.dst, decS p.sum, decS p.til, decS p.ver] := by
  unfold txt
  rw [cutA_blank _ _ (decS_ne h.seq.2), cutA_blank _ _ (decS_ne h.kind.2), cutA_blank _ _ (decS_ne h.frm.2), cutA_blank _ _ (decS_ne h.dst.2), cutA_blank _ _ (decS_ne h.sum.2), cutA_blank _ _ (decS_ne h.til.2), cutA_last _ (decS_ne h.ver.2)]
theorem txt_len {p : Pk} (h : p.small) : 13 ≤ (txt p).length ∧ (txt p).length ≤ 20 := by
  have h1 := decS_len h.seq.2
  have h2 := decS_len h.kind.2
  have h3 := decS_len h.frm.2
  have h4 := decS_len h.dst.2
  have h5 := decS_len h.sum.2
  have h6 := decS_len h.til.2
  have h7 := decS_len h.ver.2
  unfold txt
  simp only [List.length_append, List.length_cons]
  omega
theorem txt_ne {p : Pk} (h : p.small) : txt p ≠ [] := fun e => by
  have := txt_len h
  rw [e] at this
  simp at this
/-- What is read out of a text: the one packet that is written so. -/
def rdP : List (List UInt8) → Pk
  | [a, b, c, d, e, f, g] => ⟨decV a, decV b, decV c, decV d, decV e, decV f, decV g⟩
  | _ => ⟨0, 0, 0, 0, 0, 0, 0⟩
def zeroPk : Pk := ⟨0, 0, 0, 0, 0, 0, 0⟩
def rdV (s : List UInt8) : Pk × Bool := if okPk (rdP (cutA [] s)) = true ∧ txt (rdP (cutA [] s)) = s then (rdP (cutA [] s), true) else (zeroPk, false)
theorem rdP_txt {p : Pk} (h : p.small) : rdP (cutA [] (txt p)) = p := by
  rw [txt_cut h, rdP, decV_decS h.seq.1 h.seq.2, decV_decS h.kind.1 h.kind.2, decV_decS h.frm.1 h.frm.2, decV_decS h.dst.1 h.dst.2, decV_decS h.sum.1 h.sum.2, decV_decS h.til.1 h.til.2, decV_decS h.ver.1 h.ver.2]
theorem rdV_yes {p : Pk} (h : okPk p = true) : rdV (txt p) = (p, true) := by
  unfold rdV
  rw [rdP_txt (okPk_small h), if_pos ⟨h, rfl⟩]
theorem rdV_no {s : List UInt8} (h : ∀ p, okPk p = true → txt p ≠ s) : rdV s = (zeroPk, false) := by
  unfold rdV
  exact if_neg (fun k => h _ k.1 k.2)
theorem txt_inj {p q : Pk} (hp : p.small) (hq : q.small) (h : txt p = txt q) : p = q := by
  rw [← rdP_txt hp, ← rdP_txt hq, h]
end Go.Proofs.YtphojlkljlnfjaaDoor
