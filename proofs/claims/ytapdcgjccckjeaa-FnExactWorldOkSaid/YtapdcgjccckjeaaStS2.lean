/- The marks of a slice of states: written, and read again. -/
import Derived.Test.YtapdcgjccckjeaaStS
namespace Go.Proofs.Ytapdcgjccckjeaa
set_option maxRecDepth 100000
set_option linter.unusedVariables false
set_option linter.unusedSimpArgs false
open Go.RowKit
section
variable {F0 : List Nat} {w0 w : World} {L : List Asrt} {e : Nat} {A B : List St} {a b c : Int} {ps : List Pk} {bs ds : List Bool} {gs : List Int} {v : Value} {F : List Nat}
theorem Sep.lendSt (S : Sep F0 w0 (aRow tSt e (A ++ ⟨a, b, c, ps, bs, ds, gs⟩ :: B) v F :: L) w) : ∃ A1 c1 A2 c2 A3 c3 A4 c4 G1 G2 G3 G4 F1 F3, F = v.ownBlock.toList ++ (F1 ++ ((G1 ++ (G2 ++ (G3 ++ G4))) ++ F3)) ∧ (I64 a ∧ I64 b ∧ I64 c) ∧
    Sep F0 w0 (aRow tPk 88 ps (.slice A1 ps.length c1) G1 :: aRow tBool 4 bs (.slice A2 bs.length c2) G2 :: aRow tBool 4 ds (.slice A3 ds.length c3) G3 :: aRow tInt 3 gs (.slice A4 gs.length c4) G4 :: aRest tSt e A B [.int .i64 a, .int .i64 b, .int .i64 c, .slice A1 ps.length c1, .slice A2 bs.length c2, .slice A3 ds.length c3, .slice A4 gs.length c4] v F1 F3 :: L) w := by
  obtain ⟨cs, F1, Fx, F3, hF, S⟩ := S.lend
  obtain ⟨A1, c1, A2, c2, A3, c3, A4, c4, G1, G2, G3, G4, rfl, rfl, hI, S⟩ := S.openSt
  exact ⟨A1, c1, A2, c2, A3, c3, A4, c4, G1, G2, G3, G4, F1, F3, hF, hI, S⟩
theorem Sep.backSt {v1 v2 v3 v4 : Value} {G1 G2 G3 G4 F1 F3 : List Nat} (S : Sep F0 w0 (aRow tPk 88 ps v1 G1 :: aRow tBool 4 bs v2 G2 :: aRow tBool 4 ds v3 G3 :: aRow tInt 3 gs v4 G4 :: aRest tSt e A B [.int .i64 a, .int .i64 b, .int .i64 c, v1, v2, v3, v4] v F1 F3 :: L) w) (hI : I64 a ∧ I64 b ∧ I64 c) :
    Sep F0 w0 (aRow tSt e (A ++ ⟨a, b, c, ps, bs, ds, gs⟩ :: B) v (v.ownBlock.toList ++ (F1 ++ ((G1 ++ (G2 ++ (G3 ++ G4))) ++ F3))) :: L) w := (S.shutSt hI).back
end
theorem st_set {x0 x1 : St} {j : Nat} {u : Value} (h : ∀ v1 v2 v3 v4 : Value, [Value.int .i64 x0.way, .int .i64 x0.vsn, .int .i64 x0.want, v1, v2, v3, v4].set j u = [.int .i64 x1.way, .int .i64 x1.vsn, .int .i64 x1.want, v1, v2, v3, v4]) (e1 : x1.sent = x0.sent) (e2 : x1.live = x0.live) (e3 : x1.back = x0.back) (e4 : x1.got = x0.got) (ho : I64 x0.way ∧ I64 x0.vsn ∧ I64 x0.want → I64 x1.way ∧ I64 x1.vsn ∧ I64 x1.want) : ∀ (w : World) (cs : List Value) (G : List Nat), tSt.own w x0 cs G → tSt.own w x1 (cs.set j u) G := by
  rintro w cs G ⟨v1, v2, v3, v4, F1, F2, F3, F4, rfl, rfl, h1, h2, h3, h4, h5⟩
  exact ⟨v1, v2, v3, v4, F1, F2, F3, F4, h _ _ _ _, rfl, by rw [e1]; exact h1, by rw [e2]; exact h2, by rw [e3]; exact h3, by rw [e4]; exact h4, ho h5⟩
theorem markS1_eq (q : Int) (x : St) : markS1 q x = ⟨q, q + 1, q + 1 + 1, marksP (q + 1 + 1 + 1) x.sent.length, marksB (q + 1 + 1 + 1 + 7 * x.sent.length) x.live.length, marksB (q + 1 + 1 + 1 + 7 * x.sent.length + x.live.length) x.back.length, marksI (q + 1 + 1 + 1 + 7 * x.sent.length + x.live.length + x.back.length) x.got.length⟩ := by
  have e2 : q + 1 + 1 = q + 2 := by omega
  have e3 : q + 1 + 1 + 1 = q + 3 := by omega
  rw [e3, e2]
  rfl
set_option maxHeartbeats 3200000 in
theorem markStateS_c (w : World) (v : Value) (xs : List St) (F : List Nat) (q : Int) (h1 : tSt.orow 30 w v xs F) (hn : F.Nodup) (hq0 : 0 ≤ q) (hq1 : q ≤ 1000000000000000) (hc : cntMStS xs ≤ 1000000000) :
    Calls Try.prog 74 #[v, .int .i64 q] w (RetMkRow tSt 30 (q + cntMStS xs) (marksS q xs) v F w) := by
  obtain ⟨A1, c1, rfl⟩ := h1.row.val
  have hm := h1.le
  have S := Sep.startRow h1 hn
  go_enter Try.func74, Try.ntmps74
  go_wp2
  go_loopw [1, 5] (fun q' i wr => ∃ k : Nat, k ≤ xs.length ∧ i = .int .i64 k ∧ q' = .int .i64 (q + cntMStS (xs.take k)) ∧ Sep F w [aRow tSt 30 (marksS q (xs.take k) ++ xs.drop k) (.slice A1 xs.length c1) F] wr) (fun _ i _ => xs.length - (intOf i).toNat)
  case atStart => exact ⟨0, Nat.zero_le _, rfl, by simp [cntMStS], by simpa [marksS] using S⟩
  case round =>
    clear S h1
    obtain ⟨k, hk, rfl, rfl, S⟩ := hrel
    by_cases hlt : k < xs.length
    · obtain ⟨x, hx⟩ : ∃ x, xs[k] = x := ⟨_, rfl⟩
      have hd : xs.drop k = x :: xs.drop (k + 1) := by rw [← hx]; exact List.drop_eq_getElem_cons hlt
      rw [hd] at S
      obtain ⟨gg, cap', e'⟩ := (S.row (d := tSt) (F := F) (xs := marksS q (xs.take k) ++ x :: xs.drop (k + 1)) memA).shape (by rw [List.length_append, List.length_cons]; omega)
      simp only [Value.slice.injEq] at e'
      obtain ⟨rfl, hlx, rfl⟩ := e'
      clear hlx
      have hA := Lib.hid (show (marksS q (xs.take k)).length = k by rw [marksS_len]; simp; omega)
      have MT := Lib.hid (cntMStS_take xs k hlt)
      have ML := Lib.hid (cntMStS_le xs k)
      have TK := Lib.hid (marksS_take q xs k hlt)
      have HX := Lib.hid hx
      obtain ⟨qk, hqk⟩ : ∃ qk, q + (cntMStS (xs.take k) : Int) = qk := ⟨_, rfl⟩
      have HQ := Lib.hid hqk
      have q0 : 0 ≤ qk := by omega
      have q1 : qk ≤ 2000000000000000 := by have := ML.out; omega
      rw [hqk]
      clear hx hd hqk
      have p1 : (k : Int) < (xs.length : Int) := by omega
      go_wp2_with (first
        | ((with_reducible refine gate_store (p := 16) rfl ?_); refine wpList_sfield (d := tSt) (k := k) (j := 0) (x0 := (⟨x.way, x.vsn, x.want, x.sent, x.live, x.back, x.got⟩ : St)) (x1 := (⟨qk, x.vsn, x.want, x.sent, x.live, x.back, x.got⟩ : St)) S (by rfl) 3 _ _ rfl rfl (.int .i64 _) rfl rfl ts3 memA hA.out (by first | rfl | simp [tSt]) (by decide) (st_set (fun _ _ _ _ => rfl) rfl rfl rfl rfl (fun h => by unfold I64 at h ⊢; simp only at h ⊢; omega)) putA ?_; clear S; intro w9 S)
        | ((with_reducible refine gate_store (p := 23) rfl ?_); refine wpList_sfield (d := tSt) (k := k) (j := 1) (x0 := (⟨qk, x.vsn, x.want, x.sent, x.live, x.back, x.got⟩ : St)) (x1 := (⟨qk, qk + 1, x.want, x.sent, x.live, x.back, x.got⟩ : St)) S (by rfl) 3 _ _ rfl rfl (.int .i64 _) rfl rfl ts3 memA hA.out (by first | rfl | simp [tSt]) (by decide) (st_set (fun _ _ _ _ => rfl) rfl rfl rfl rfl (fun h => by unfold I64 at h ⊢; simp only at h ⊢; omega)) putA ?_; clear S; intro w9 S)
        | ((with_reducible refine gate_store (p := 30) rfl ?_); refine wpList_sfield (d := tSt) (k := k) (j := 2) (x0 := (⟨qk, qk + 1, x.want, x.sent, x.live, x.back, x.got⟩ : St)) (x1 := (⟨qk, qk + 1, qk + 1 + 1, x.sent, x.live, x.back, x.got⟩ : St)) S (by rfl) 3 _ _ rfl rfl (.int .i64 _) rfl rfl ts3 memA hA.out (by first | rfl | simp [tSt]) (by decide) (st_set (fun _ _ _ _ => rfl) rfl rfl rfl rfl (fun h => by unfold I64 at h ⊢; simp only at h ⊢; omega)) putA ?_; clear S; intro w9 S; obtain ⟨B1, c1, B2, c2, B3, c3, B4, c4, G1, G2, G3, G4, F1, F3, hF, hI, S⟩ := S.lendSt; have HF := Lib.hid hF; have HI := Lib.hid hI; have l1 := (S.row (d := tPk) (xs := x.sent) memA).le; have l2 := (S.row (d := tBool) (xs := x.live) (F := G2) memA).le; have l3 := (S.row (d := tBool) (xs := x.back) (F := G3) memA).le; have l4 := (S.row (d := tInt) (xs := x.got) memA).le; clear hF hI)
        | ((with_reducible refine gate_dst (N := 37) rfl ?_); refine aRc ((S.restAt memA hA.out).at_ 3 rfl) ?_)
        | ((with_reducible refine gate_dst (N := 44) rfl ?_); refine aRc ((S.restAt memA hA.out).at_ 4 rfl) ?_)
        | ((with_reducible refine gate_dst (N := 51) rfl ?_); refine aRc ((S.restAt memA hA.out).at_ 5 rfl) ?_)
        | ((with_reducible refine gate_dst (N := 58) rfl ?_); refine aRc ((S.restAt memA hA.out).at_ 6 rfl) ?_)
        | (go_at_call 98; (with_reducible refine (markPacketS_c _ (.slice B1 x.sent.length c1) x.sent G1 _ (S.row memA) (by omega) (by omega)).mono ?_); rintro e w9 ⟨rfl, h9, c9⟩; replace S := S.putRow putA h9 c9; clear h9 c9)
        | (go_at_call 99; (with_reducible refine (markBoolS_c _ (.slice B2 x.live.length c2) x.live G2 _ (S.row memA) (by omega) (by omega)).mono ?_); rintro e w9 ⟨rfl, h9, c9⟩; replace S := S.putRow putA h9 c9; clear h9 c9)
        | (go_at_call 99; (with_reducible refine (markBoolS_c _ (.slice B3 x.back.length c3) x.back G3 _ (S.row memA) (by omega) (by omega)).mono ?_); rintro e w9 ⟨rfl, h9, c9⟩; replace S := S.putRow putA h9 c9; clear h9 c9)
        | (go_at_call 75; (with_reducible refine (markIntS_c _ (.slice B4 x.got.length c4) x.got G4 _ (S.row memA) (by omega) (by omega)).mono ?_); rintro e w9 ⟨rfl, h9, c9⟩; replace S := S.putRow putA h9 c9; clear h9 c9))
      replace S := S.backSt HI.out
      rw [← HF.out] at S
      go_roundw
      case rel => exact ⟨k + 1, by omega, by go_num, by rw [MT.out, HX.out, ← HQ.out]; congr 1; unfold cntMSt; omega, by rw [TK.out, HX.out, HQ.out, List.append_assoc, markS1_eq]; exact S⟩
      case measure => simp [intOf]; omega
    · obtain rfl : k = xs.length := by omega
      rw [List.drop_length, List.append_nil, List.take_length] at S
      rw [List.take_length]
      go_wp2
      go_ret
      exact ⟨rfl, S.row memA, S.chg⟩
set_option maxHeartbeats 3200000 in
theorem heldStateS_c (w : World) (v : Value) (xs : List St) (q : Int) (h1 : tSt.row w v (marksS q xs)) (hb : ∀ k (h : k < xs.length), Small xs[k]) (hq0 : 0 ≤ q) (hq1 : q ≤ 1000000000000000) (hc : cntMStS xs ≤ 1000000000) :
    Calls Try.prog 77 #[v, .int .i64 q] w (Ret (.int .i64 (q + cntMStS xs)) w) := by
  obtain ⟨A1, c1, rfl⟩ := h1.val
  have hm := h1.le
  rw [marksS_len] at hm
  rw [marksS_len] at h1 ⊢
  have H1 := Lib.hid h1
  clear h1
  have S := Sep.start w
  go_enter Try.func77, Try.ntmps77
  go_wp2
  go_loopw [1, 5] (fun q' i wr => ∃ k : Nat, k ≤ xs.length ∧ i = .int .i64 k ∧ q' = .int .i64 (q + cntMStS (xs.take k)) ∧ Sep [] w [] wr) (fun _ i _ => xs.length - (intOf i).toNat)
  case atStart => exact ⟨0, Nat.zero_le _, rfl, by simp [cntMStS], S⟩
  case round =>
    clear S
    obtain ⟨k, hk, rfl, rfl, S⟩ := hrel
    by_cases hlt : k < xs.length
    · obtain ⟨ad1, cs1, rfl, r1, g1⟩ := cellsAt_of_row H1.out k (by rw [marksS_len]; exact hlt)
      rw [marksS_get q xs k hlt] at r1
      obtain ⟨b1, b2, b3, b4⟩ := hb k hlt
      have MT := Lib.hid (cntMStS_take xs k hlt)
      have ML := Lib.hid (cntMStS_le xs k)
      obtain ⟨x, hx⟩ : ∃ x, xs[k] = x := ⟨_, rfl⟩
      rw [hx] at r1 b1 b2 b3 b4
      have HX := Lib.hid hx
      obtain ⟨qk, hqk⟩ : ∃ qk, q + (cntMStS (xs.take k) : Int) = qk := ⟨_, rfl⟩
      have HQ := Lib.hid hqk
      have q0 : 0 ≤ qk := by omega
      have q1 : qk ≤ 2000000000000000 := by have := ML.out; omega
      rw [hqk]
      rw [hqk, markS1_eq] at r1
      clear hx hqk hb
      obtain ⟨v1, v2, v3, v4, rfl, h11, h12, h13, h14, _⟩ := r1
      have G1 := Lib.hid (fun (W : World) (f : Fr w W) => g1.fr f)
      clear g1
      have p0 : (0 : Int) ≤ (k : Int) := Int.natCast_nonneg _
      have p1 : (k : Int) < (xs.length : Int) := by omega
      have w1 : IntKind.i64.wrap (qk + 1) = qk + 1 := IntWalk.i64_in _ (by omega)
      have w2 : IntKind.i64.wrap (qk + 1 + 1) = qk + 1 + 1 := IntWalk.i64_in _ (by omega)
      have w3 : IntKind.i64.wrap (qk + 1 + 1 + 1) = qk + 1 + 1 + 1 := IntWalk.i64_in _ (by omega)
      go_wp2_with (first
        | ((with_reducible refine gate_dst (N := 16) rfl ?_); refine aRc ((G1.out _ S.frame).at_ 0 rfl) ?_)
        | ((with_reducible refine gate_dst (N := 25) rfl ?_); refine aRc ((G1.out _ S.frame).at_ 1 rfl) ?_)
        | ((with_reducible refine gate_dst (N := 34) rfl ?_); refine aRc ((G1.out _ S.frame).at_ 2 rfl) ?_)
        | ((with_reducible refine gate_dst (N := 43) rfl ?_); refine aRc ((G1.out _ S.frame).at_ 3 rfl) ?_)
        | ((with_reducible refine gate_dst (N := 52) rfl ?_); refine aRc ((G1.out _ S.frame).at_ 4 rfl) ?_)
        | ((with_reducible refine gate_dst (N := 61) rfl ?_); refine aRc ((G1.out _ S.frame).at_ 5 rfl) ?_)
        | ((with_reducible refine gate_dst (N := 70) rfl ?_); refine aRc ((G1.out _ S.frame).at_ 6 rfl) ?_)
        | (go_at_call 100; (with_reducible refine (heldPacketS_c _ _ x.sent.length _ (h11.fr S.frame) b1 (by omega) (by omega)).mono ?_); rintro e w9 ⟨rfl, f9⟩; replace S := S.fr f9; clear f9)
        | (go_at_call 101; (with_reducible refine (heldBoolS_c _ _ x.live.length _ (h12.fr S.frame) b2 (by omega) (by omega)).mono ?_); rintro e w9 ⟨rfl, f9⟩; replace S := S.fr f9; clear f9)
        | (go_at_call 101; (with_reducible refine (heldBoolS_c _ _ x.back.length _ (h13.fr S.frame) b3 (by omega) (by omega)).mono ?_); rintro e w9 ⟨rfl, f9⟩; replace S := S.fr f9; clear f9)
        | (go_at_call 78; (with_reducible refine (heldIntS_c _ _ x.got.length _ (h14.fr S.frame) b4 (by omega) (by omega)).mono ?_); rintro e w9 ⟨rfl, f9⟩; replace S := S.fr f9; clear f9))
      go_roundw
      case rel => exact ⟨k + 1, by omega, by go_num, by rw [MT.out, HX.out, ← HQ.out]; congr 1; unfold cntMSt; omega, S⟩
      case measure => simp [intOf]; omega
    · obtain rfl : k = xs.length := by omega
      rw [List.take_length]
      go_wp2
      go_ret
      exact ⟨rfl, S.frame⟩
end Go.Proofs.Ytapdcgjccckjeaa
