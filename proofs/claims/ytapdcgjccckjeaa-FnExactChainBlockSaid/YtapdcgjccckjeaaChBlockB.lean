/- The bound of what ChainBlock gives. -/
import Derived.Test.YtapdcgjccckjeaaChBlock
namespace Go.Proofs.Ytapdcgjccckjeaa
set_option maxRecDepth 100000
set_option linter.unusedVariables false
set_option linter.unusedSimpArgs false
open Go.RowKit
theorem cntMSt_ok {s : St} (h : okSt s = true) : cntMSt s ≤ 500 := by
  have := okSt_len h
  unfold cntMSt
  omega
theorem cntMStS_ok : ∀ {ss : List St}, (∀ s ∈ ss, okSt s = true) → cntMStS ss ≤ 1000 * ss.length
  | [], _ => by simp [cntMStS]
  | s :: ss, h => by
    have h1 := cntMSt_ok (h s List.mem_cons_self)
    have h2 := cntMStS_ok (fun x hx => h x (List.mem_cons_of_mem _ hx))
    simp only [cntMStS, List.length_cons] at *
    omega
theorem SmallCh.mk' {c : Ch} (h1 : okBk c.bank = true) (h2 : okSt c.st = true) (h3 : ∀ s ∈ c.past, okSt s = true) (h4 : c.past.length ≤ 1000) (h5 : c.knows.length ≤ 1000) : SmallCh c := by
  have b := okBk_len h1
  have p := cntMStS_ok h3
  refine ⟨by omega, okSt_small h2, fun k hk => okSt_small (h3 _ (List.getElem_mem hk)), by omega, by omega⟩
theorem nilCh_small : SmallCh nilCh := ⟨⟨by simp [nilCh], by simp [nilCh]⟩, by simp [Small, nilCh], fun k h => by simp [nilCh] at h, by simp [nilCh, cntMStS], by simp [nilCh]⟩
theorem chBlockV_small {c x : Ch} (hR : chBlockV c = x) : SmallCh x := by
  unfold chBlockV at hR
  split at hR
  · rename_i hc
    obtain ⟨q1, q2, q3, q4, q5, q6⟩ := okCh_parts hc
    have k1 := knOk_len q6
    rw [← hR]
    unfold blk
    split
    · refine SmallCh.mk' q2 q3 (fun s hs => ?_) (by simp; omega) (by show c.knows.length ≤ 1000; omega)
      rcases List.mem_append.1 hs with h | h
      · exact List.all_eq_true.1 q5 _ h
      · rw [List.mem_singleton.1 h]; exact q3
    · exact SmallCh.mk' q2 q3 (List.all_eq_true.1 q5) (by omega) (by omega)
  · rw [← hR]
    exact nilCh_small
end Go.Proofs.Ytapdcgjccckjeaa
