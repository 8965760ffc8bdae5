/- The marks of a slice of packets, written. -/
import Derived.Test.YtapdcgjccckjeaaSep2
import Derived.Test.YtapdcgjccckjeaaTypes
import Derived.Test.YtapdcgjccckjeaaPkMark
namespace Go.Proofs.Ytapdcgjccckjeaa
set_option maxRecDepth 100000
set_option linter.unusedVariables false
set_option linter.unusedSimpArgs false
open Go.RowKit
theorem pk_set {x0 x1 : Pk} {j : Nat} {u : Value} (h : x0.cells.set j u = x1.cells) (ho : x0.ok64 → x1.ok64) : ∀ (w : World) (cs : List Value) (G : List Nat), tPk.own w x0 cs G → tPk.own w x1 (cs.set j u) G := by
  rintro w cs G ⟨⟨rfl, h1⟩, rfl⟩
  exact ⟨⟨h, ho h1⟩, rfl⟩
set_option maxRecDepth 100000 in
set_option maxHeartbeats 3200000 in
theorem markPacketS_c (w : World) (v : Value) (xs : List Pk) (F : List Nat) (q : Int) (h1 : tPk.orow 88 w v xs F) (hq0 : 0 ≤ q) (hq1 : q ≤ 100000000000000000) :
    Calls Try.prog 98 #[v, .int .i64 q] w (RetMkRow tPk 88 (q + 7 * xs.length) (marksP q xs.length) v F w) := by
  obtain ⟨A1, c1, rfl⟩ := h1.row.val
  have hm := h1.le
  have S := Sep.startRow h1 (h1.nodup tPk_flat)
  go_enter Try.func98, Try.ntmps98
  go_wp2
  go_loopw [1, 5] (fun q' i wr => ∃ k : Nat, k ≤ xs.length ∧ i = .int .i64 k ∧ q' = .int .i64 (q + 7 * k) ∧ Sep F w [aRow tPk 88 (marksP q k ++ xs.drop k) (.slice A1 xs.length c1) F] wr) (fun _ i _ => xs.length - (intOf i).toNat)
  case atStart => exact ⟨0, Nat.zero_le _, rfl, by simp, by simpa [marksP] using S⟩
  case round =>
    clear S h1
    obtain ⟨k, hk, rfl, rfl, S⟩ := hrel
    by_cases hlt : k < xs.length
    · obtain ⟨x, hx⟩ : ∃ x, xs[k] = x := ⟨_, rfl⟩
      have hd : xs.drop k = x :: xs.drop (k + 1) := by rw [← hx]; exact List.drop_eq_getElem_cons hlt
      rw [hd] at S
      obtain ⟨gg, cap', e'⟩ := (S.row (d := tPk) (F := F) (xs := marksP q k ++ x :: xs.drop (k + 1)) memA).shape (by rw [List.length_append, List.length_cons]; omega)
      simp only [Value.slice.injEq] at e'
      obtain ⟨rfl, hlx, rfl⟩ := e'
      clear hlx
      have hA := Lib.hid (marksP_len q k)
      have hs2 : marksP q k ++ (⟨q + 7 * (k : Int), q + 7 * (k : Int) + 1, q + 7 * (k : Int) + 1 + 1, q + 7 * (k : Int) + 1 + 1 + 1, q + 7 * (k : Int) + 1 + 1 + 1 + 1, q + 7 * (k : Int) + 1 + 1 + 1 + 1 + 1, q + 7 * (k : Int) + 1 + 1 + 1 + 1 + 1 + 1⟩ : Pk) :: xs.drop (k + 1) = marksP q (k + 1) ++ xs.drop (k + 1) := by
        rw [← marksP_succ q xs k hlt, hd, set_mid (marksP_len q k)]
        congr 2
        simp only [markPk]
        congr 1 <;> omega
      have HS := Lib.hid hs2
      clear hx hd hs2
      have p1 : (k : Int) < (xs.length : Int) := by omega
      go_wp2_with (first
        | ((with_reducible refine gate_store (p := 16) rfl ?_); refine wpList_sfield (d := tPk) (k := k) (j := 0) (x0 := (⟨x.seq, x.kind, x.frm, x.dst, x.sum, x.til, x.ver⟩ : Pk)) (x1 := (⟨q + 7 * (k : Int), x.kind, x.frm, x.dst, x.sum, x.til, x.ver⟩ : Pk)) S (by rfl) 3 _ _ rfl rfl (.int .i64 _) rfl rfl ts3 memA hA.out (by first | rfl | simp [tPk]) (by decide) (pk_set rfl (fun h => by simp only [Pk.ok64] at h ⊢; omega)) putA ?_; clear S; intro w9 S)
        | ((with_reducible refine gate_store (p := 23) rfl ?_); refine wpList_sfield (d := tPk) (k := k) (j := 1) (x0 := (⟨q + 7 * (k : Int), x.kind, x.frm, x.dst, x.sum, x.til, x.ver⟩ : Pk)) (x1 := (⟨q + 7 * (k : Int), q + 7 * (k : Int) + 1, x.frm, x.dst, x.sum, x.til, x.ver⟩ : Pk)) S (by rfl) 3 _ _ rfl rfl (.int .i64 _) rfl rfl ts3 memA hA.out (by first | rfl | simp [tPk]) (by decide) (pk_set rfl (fun h => by simp only [Pk.ok64] at h ⊢; omega)) putA ?_; clear S; intro w9 S)
        | ((with_reducible refine gate_store (p := 30) rfl ?_); refine wpList_sfield (d := tPk) (k := k) (j := 2) (x0 := (⟨q + 7 * (k : Int), q + 7 * (k : Int) + 1, x.frm, x.dst, x.sum, x.til, x.ver⟩ : Pk)) (x1 := (⟨q + 7 * (k : Int), q + 7 * (k : Int) + 1, q + 7 * (k : Int) + 1 + 1, x.dst, x.sum, x.til, x.ver⟩ : Pk)) S (by rfl) 3 _ _ rfl rfl (.int .i64 _) rfl rfl ts3 memA hA.out (by first | rfl | simp [tPk]) (by decide) (pk_set rfl (fun h => by simp only [Pk.ok64] at h ⊢; omega)) putA ?_; clear S; intro w9 S)
        | ((with_reducible refine gate_store (p := 37) rfl ?_); refine wpList_sfield (d := tPk) (k := k) (j := 3) (x0 := (⟨q + 7 * (k : Int), q + 7 * (k : Int) + 1, q + 7 * (k : Int) + 1 + 1, x.dst, x.sum, x.til, x.ver⟩ : Pk)) (x1 := (⟨q + 7 * (k : Int), q + 7 * (k : Int) + 1, q + 7 * (k : Int) + 1 + 1, q + 7 * (k : Int) + 1 + 1 + 1, x.sum, x.til, x.ver⟩ : Pk)) S (by rfl) 3 _ _ rfl rfl (.int .i64 _) rfl rfl ts3 memA hA.out (by first | rfl | simp [tPk]) (by decide) (pk_set rfl (fun h => by simp only [Pk.ok64] at h ⊢; omega)) putA ?_; clear S; intro w9 S)
        | ((with_reducible refine gate_store (p := 44) rfl ?_); refine wpList_sfield (d := tPk) (k := k) (j := 4) (x0 := (⟨q + 7 * (k : Int), q + 7 * (k : Int) + 1, q + 7 * (k : Int) + 1 + 1, q + 7 * (k : Int) + 1 + 1 + 1, x.sum, x.til, x.ver⟩ : Pk)) (x1 := (⟨q + 7 * (k : Int), q + 7 * (k : Int) + 1, q + 7 * (k : Int) + 1 + 1, q + 7 * (k : Int) + 1 + 1 + 1, q + 7 * (k : Int) + 1 + 1 + 1 + 1, x.til, x.ver⟩ : Pk)) S (by rfl) 3 _ _ rfl rfl (.int .i64 _) rfl rfl ts3 memA hA.out (by first | rfl | simp [tPk]) (by decide) (pk_set rfl (fun h => by simp only [Pk.ok64] at h ⊢; omega)) putA ?_; clear S; intro w9 S)
        | ((with_reducible refine gate_store (p := 51) rfl ?_); refine wpList_sfield (d := tPk) (k := k) (j := 5) (x0 := (⟨q + 7 * (k : Int), q + 7 * (k : Int) + 1, q + 7 * (k : Int) + 1 + 1, q + 7 * (k : Int) + 1 + 1 + 1, q + 7 * (k : Int) + 1 + 1 + 1 + 1, x.til, x.ver⟩ : Pk)) (x1 := (⟨q + 7 * (k : Int), q + 7 * (k : Int) + 1, q + 7 * (k : Int) + 1 + 1, q + 7 * (k : Int) + 1 + 1 + 1, q + 7 * (k : Int) + 1 + 1 + 1 + 1, q + 7 * (k : Int) + 1 + 1 + 1 + 1 + 1, x.ver⟩ : Pk)) S (by rfl) 3 _ _ rfl rfl (.int .i64 _) rfl rfl ts3 memA hA.out (by first | rfl | simp [tPk]) (by decide) (pk_set rfl (fun h => by simp only [Pk.ok64] at h ⊢; omega)) putA ?_; clear S; intro w9 S)
        | ((with_reducible refine gate_store (p := 58) rfl ?_); refine wpList_sfield (d := tPk) (k := k) (j := 6) (x0 := (⟨q + 7 * (k : Int), q + 7 * (k : Int) + 1, q + 7 * (k : Int) + 1 + 1, q + 7 * (k : Int) + 1 + 1 + 1, q + 7 * (k : Int) + 1 + 1 + 1 + 1, q + 7 * (k : Int) + 1 + 1 + 1 + 1 + 1, x.ver⟩ : Pk)) (x1 := (⟨q + 7 * (k : Int), q + 7 * (k : Int) + 1, q + 7 * (k : Int) + 1 + 1, q + 7 * (k : Int) + 1 + 1 + 1, q + 7 * (k : Int) + 1 + 1 + 1 + 1, q + 7 * (k : Int) + 1 + 1 + 1 + 1 + 1, q + 7 * (k : Int) + 1 + 1 + 1 + 1 + 1 + 1⟩ : Pk)) S (by rfl) 3 _ _ rfl rfl (.int .i64 _) rfl rfl ts3 memA hA.out (by first | rfl | simp [tPk]) (by decide) (pk_set rfl (fun h => by simp only [Pk.ok64] at h ⊢; omega)) putA ?_; clear S; intro w9 S))
      rw [HS.out] at S
      go_roundw
      case rel => exact ⟨k + 1, by omega, by go_num, by congr 1; omega, S⟩
      case measure => simp [intOf]; omega
    · obtain rfl : k = xs.length := by omega
      rw [List.drop_length, List.append_nil] at S
      go_wp2
      go_ret
      exact ⟨rfl, S.row memA, S.chg⟩
end Go.Proofs.Ytapdcgjccckjeaa
