/- States as data. -/
import Derived.Test.YtapdcgjccckjeaaPkToS
import Derived.Test.YtapdcgjccckjeaaBools
import Derived.Test.YtapdcgjccckjeaaNum
namespace Go.Proofs.Ytapdcgjccckjeaa
set_option maxRecDepth 100000
set_option linter.unusedVariables false
set_option linter.unusedSimpArgs false
open Go.RowKit
structure St where
  way : Int
  vsn : Int
  want : Int
  sent : List Pk
  live : List Bool
  back : List Bool
  got : List Int
def tSt : Ty St where
  sz := 7
  rd := fun w s cs => ∃ v1 v2 v3 v4, cs = [.int .i64 s.way, .int .i64 s.vsn, .int .i64 s.want, v1, v2, v3, v4] ∧ tPk.row w v1 s.sent ∧ tBool.row w v2 s.live ∧ tBool.row w v3 s.back ∧ tInt.row w v4 s.got ∧ (I64 s.way ∧ I64 s.vsn ∧ I64 s.want)
  own := fun w s cs F => ∃ v1 v2 v3 v4 F1 F2 F3 F4, cs = [.int .i64 s.way, .int .i64 s.vsn, .int .i64 s.want, v1, v2, v3, v4] ∧ F = F1 ++ (F2 ++ (F3 ++ F4)) ∧ tPk.orow 88 w v1 s.sent F1 ∧ tBool.orow 4 w v2 s.live F2 ∧ tBool.orow 4 w v3 s.back F3 ∧ tInt.orow 3 w v4 s.got F4 ∧ (I64 s.way ∧ I64 s.vsn ∧ I64 s.want)
  len := by rintro w x cs ⟨v1, v2, v3, v4, rfl, _⟩; rfl
  fr := by rintro w w' x cs f ⟨v1, v2, v3, v4, rfl, h1, h2, h3, h4, h5⟩; exact ⟨v1, v2, v3, v4, rfl, h1.fr f, h2.fr f, h3.fr f, h4.fr f, h5⟩
  own_rd := by rintro w x cs F ⟨v1, v2, v3, v4, F1, F2, F3, F4, rfl, rfl, h1, h2, h3, h4, h5⟩; exact ⟨v1, v2, v3, v4, rfl, h1.row, h2.row, h3.row, h4.row, h5⟩
  own_lt := by
    rintro w x cs F ⟨v1, v2, v3, v4, F1, F2, F3, F4, rfl, rfl, h1, h2, h3, h4, h5⟩ g hg
    rcases List.mem_append.1 hg with hg | hg
    · exact h1.lt g hg
    rcases List.mem_append.1 hg with hg | hg
    · exact h2.lt g hg
    rcases List.mem_append.1 hg with hg | hg
    · exact h3.lt g hg
    · exact h4.lt g hg
  keep := by
    rintro w w' x cs F ⟨v1, v2, v3, v4, F1, F2, F3, F4, rfl, rfl, h1, h2, h3, h4, h5⟩ hk
    exact ⟨v1, v2, v3, v4, F1, F2, F3, F4, rfl, rfl, h1.keep (fun g hg => hk g (List.mem_append_left _ hg)), h2.keep (fun g hg => hk g (List.mem_append_right _ (List.mem_append_left _ hg))), h3.keep (fun g hg => hk g (List.mem_append_right _ (List.mem_append_right _ (List.mem_append_left _ hg)))), h4.keep (fun g hg => hk g (List.mem_append_right _ (List.mem_append_right _ (List.mem_append_right _ hg)))), h5⟩
  one := by
    rintro w x cs F ⟨v1, v2, v3, v4, F1, F2, F3, F4, rfl, rfl, h1, h2, h3, h4, h5⟩ u hu
    simp only [List.mem_cons, List.not_mem_nil, or_false] at hu
    rcases hu with rfl | rfl | rfl | rfl | rfl | rfl | rfl
    · rfl
    · rfl
    · rfl
    · exact h1.one
    · exact h2.one
    · exact h3.one
    · exact h4.one
theorem tSt_mk {w : World} {s : St} {v1 v2 v3 v4 : Value} (h1 : tPk.row w v1 s.sent) (h2 : tBool.row w v2 s.live) (h3 : tBool.row w v3 s.back) (h4 : tInt.row w v4 s.got) (h5 : I64 s.way ∧ I64 s.vsn ∧ I64 s.want) : tSt.rd w s [.int .i64 s.way, .int .i64 s.vsn, .int .i64 s.want, v1, v2, v3, v4] := ⟨v1, v2, v3, v4, rfl, h1, h2, h3, h4, h5⟩
set_option maxHeartbeats 1600000 in
theorem eqState_c (w : World) (s : St) (c1 c2 : List Value) (h1 : tSt.rd w s c1) (h2 : tSt.rd w s c2) : Calls Try.prog 43 #[.agg c1.toArray, .agg c2.toArray] w (Ret (.bool true) w) := by
  obtain ⟨v1, v2, v3, v4, rfl, h11, h12, h13, h14, h15⟩ := h1
  obtain ⟨u1, u2, u3, u4, rfl, h21, h22, h23, h24, _⟩ := h2
  have f := Fr.refl w
  go_enter Try.func43, Try.ntmps43
  go_wp2_with (first
    | ((with_reducible refine gate_dst (N := 2) rfl ?_); refine wpList_box rfl _ _ rfl #[.int .i64 s.way, .int .i64 s.vsn, .int .i64 s.want, v1, v2, v3, v4] rfl ?_; intro g_k2 w9 hg_k2 k2 f9; have zf_k2 := f.size; have hl_k2 := k2.lt; have z9 := f9.size; replace f := f.trans f9; (try replace h11 := h11.fr f9); (try replace h12 := h12.fr f9); (try replace h13 := h13.fr f9); (try replace h14 := h14.fr f9); (try replace h21 := h21.fr f9); (try replace h22 := h22.fr f9); (try replace h23 := h23.fr f9); (try replace h24 := h24.fr f9); (try (replace k3 := k3.fr f9; (try clear r_k3); have r_k3 := k3.cells)); (try clear r_k2); have r_k2 := k2.cells)
    | ((with_reducible refine gate_dst (N := 3) rfl ?_); refine wpList_box rfl _ _ rfl #[.int .i64 s.way, .int .i64 s.vsn, .int .i64 s.want, u1, u2, u3, u4] rfl ?_; intro g_k3 w9 hg_k3 k3 f9; have zf_k3 := f.size; have hl_k3 := k3.lt; have z9 := f9.size; replace f := f.trans f9; (try replace h11 := h11.fr f9); (try replace h12 := h12.fr f9); (try replace h13 := h13.fr f9); (try replace h14 := h14.fr f9); (try replace h21 := h21.fr f9); (try replace h22 := h22.fr f9); (try replace h23 := h23.fr f9); (try replace h24 := h24.fr f9); (try (replace k2 := k2.fr f9; (try clear r_k2); have r_k2 := k2.cells)); (try clear r_k3); have r_k3 := k3.cells)
    | (go_at_call 96; (with_reducible refine (eqPacketS_c _ _ _ _ (by assumption) (by assumption)).mono ?_); rintro e w9 ⟨rfl, f9⟩; have z9 := f9.size; replace f := f.trans f9; (try replace h11 := h11.fr f9); (try replace h12 := h12.fr f9); (try replace h13 := h13.fr f9); (try replace h14 := h14.fr f9); (try replace h21 := h21.fr f9); (try replace h22 := h22.fr f9); (try replace h23 := h23.fr f9); (try replace h24 := h24.fr f9); (try (replace k2 := k2.fr f9; (try clear r_k2); have r_k2 := k2.cells)); (try (replace k3 := k3.fr f9; (try clear r_k3); have r_k3 := k3.cells)))
    | (go_at_call 97; (with_reducible refine (eqBoolS_c _ _ _ _ (by assumption) (by assumption)).mono ?_); rintro e w9 ⟨rfl, f9⟩; have z9 := f9.size; replace f := f.trans f9; (try replace h11 := h11.fr f9); (try replace h12 := h12.fr f9); (try replace h13 := h13.fr f9); (try replace h14 := h14.fr f9); (try replace h21 := h21.fr f9); (try replace h22 := h22.fr f9); (try replace h23 := h23.fr f9); (try replace h24 := h24.fr f9); (try (replace k2 := k2.fr f9; (try clear r_k2); have r_k2 := k2.cells)); (try (replace k3 := k3.fr f9; (try clear r_k3); have r_k3 := k3.cells)))
    | (go_at_call 72; (with_reducible refine (eqIntS_c _ _ _ _ (by assumption) (by assumption)).mono ?_); rintro e w9 ⟨rfl, f9⟩; have z9 := f9.size; replace f := f.trans f9; (try replace h11 := h11.fr f9); (try replace h12 := h12.fr f9); (try replace h13 := h13.fr f9); (try replace h14 := h14.fr f9); (try replace h21 := h21.fr f9); (try replace h22 := h22.fr f9); (try replace h23 := h23.fr f9); (try replace h24 := h24.fr f9); (try (replace k2 := k2.fr f9; (try clear r_k2); have r_k2 := k2.cells)); (try (replace k3 := k3.fr f9; (try clear r_k3); have r_k3 := k3.cells))))
  go_ret
  exact ⟨rfl, f⟩
end Go.Proofs.Ytapdcgjccckjeaa
