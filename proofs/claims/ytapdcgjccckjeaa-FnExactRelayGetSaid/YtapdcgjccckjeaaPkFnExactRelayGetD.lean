/- The texts PkOk, PkRd, StOk1, Fate, StOk2, StSetD. -/
import Derived.Test.YtapdcgjccckjeaaPkFnExactRelayGetC
namespace Go.Proofs.Ytapdcgjccckjeaa
set_option maxRecDepth 100000
set_option linter.unusedVariables false
set_option linter.unusedSimpArgs false
open Go.RowKit
set_option maxHeartbeats 3200000 in
theorem sPacketOk_c (w : World) (p : Pk) : Calls Try.prog 116 #[.agg p.cells.toArray] w (Ret (.bool (okPk p)) w) := by
  obtain ⟨s, k, a, b, m, u, v⟩ := p
  have f := Fr.refl w
  cases ds : decide (1 ≤ s ∧ s ≤ 8) with
  | false =>
    go_enter Try.func116, Try.ntmps116
    go_wp2_with (first
      | ((with_reducible refine gate_dst (N := 1) rfl ?_); refine wpList_box rfl _ _ rfl #[.int .i64 s, .int .i64 k, .int .i64 a, .int .i64 b, .int .i64 m, .int .i64 u, .int .i64 v] rfl ?_; intro g_k1 w9 hg_k1 k1 f9; have zf_k1 := f.size; have hl_k1 := k1.lt; have z9 := f9.size; replace f := f.trans f9; (try clear r_k1); have r_k1 := k1.cells)
      | (go_at_call 61; (with_reducible refine (l6In_c _ _ _ _).mono ?_); rintro e w9 ⟨rfl, rfl⟩; (try rw [ds]))
      | (go_at_call 140; (with_reducible refine (l1User_c _ _).mono ?_); rintro e w9 ⟨rfl, rfl⟩; (try rw [ds])))
    go_ret
    exact ⟨ret_bool (by simp only [okPk, ds]; first | rfl | simp), f⟩
  | true =>
    cases dk : decide (1 ≤ k ∧ k ≤ 2) with
    | false =>
      go_enter Try.func116, Try.ntmps116
      go_wp2_with (first
        | ((with_reducible refine gate_dst (N := 1) rfl ?_); refine wpList_box rfl _ _ rfl #[.int .i64 s, .int .i64 k, .int .i64 a, .int .i64 b, .int .i64 m, .int .i64 u, .int .i64 v] rfl ?_; intro g_k1 w9 hg_k1 k1 f9; have zf_k1 := f.size; have hl_k1 := k1.lt; have z9 := f9.size; replace f := f.trans f9; (try clear r_k1); have r_k1 := k1.cells)
        | (go_at_call 61; (with_reducible refine (l6In_c _ _ _ _).mono ?_); rintro e w9 ⟨rfl, rfl⟩; (try rw [ds]); (try rw [dk]))
        | (go_at_call 140; (with_reducible refine (l1User_c _ _).mono ?_); rintro e w9 ⟨rfl, rfl⟩; (try rw [ds]); (try rw [dk])))
      go_ret
      exact ⟨ret_bool (by simp only [okPk, ds, dk]; first | rfl | simp), f⟩
    | true =>
      cases da : decide (1 ≤ a ∧ a ≤ 3) with
      | false =>
        go_enter Try.func116, Try.ntmps116
        go_wp2_with (first
          | ((with_reducible refine gate_dst (N := 1) rfl ?_); refine wpList_box rfl _ _ rfl #[.int .i64 s, .int .i64 k, .int .i64 a, .int .i64 b, .int .i64 m, .int .i64 u, .int .i64 v] rfl ?_; intro g_k1 w9 hg_k1 k1 f9; have zf_k1 := f.size; have hl_k1 := k1.lt; have z9 := f9.size; replace f := f.trans f9; (try clear r_k1); have r_k1 := k1.cells)
          | (go_at_call 61; (with_reducible refine (l6In_c _ _ _ _).mono ?_); rintro e w9 ⟨rfl, rfl⟩; (try rw [ds]); (try rw [dk]); (try rw [da]))
          | (go_at_call 140; (with_reducible refine (l1User_c _ _).mono ?_); rintro e w9 ⟨rfl, rfl⟩; (try rw [ds]); (try rw [dk]); (try rw [da])))
        go_ret
        exact ⟨ret_bool (by simp only [okPk, ds, dk, da]; first | rfl | simp), f⟩
      | true =>
        cases db : decide (0 ≤ b ∧ b ≤ 3) with
        | false =>
          go_enter Try.func116, Try.ntmps116
          go_wp2_with (first
            | ((with_reducible refine gate_dst (N := 1) rfl ?_); refine wpList_box rfl _ _ rfl #[.int .i64 s, .int .i64 k, .int .i64 a, .int .i64 b, .int .i64 m, .int .i64 u, .int .i64 v] rfl ?_; intro g_k1 w9 hg_k1 k1 f9; have zf_k1 := f.size; have hl_k1 := k1.lt; have z9 := f9.size; replace f := f.trans f9; (try clear r_k1); have r_k1 := k1.cells)
            | (go_at_call 61; (with_reducible refine (l6In_c _ _ _ _).mono ?_); rintro e w9 ⟨rfl, rfl⟩; (try rw [ds]); (try rw [dk]); (try rw [da]); (try rw [db]))
            | (go_at_call 140; (with_reducible refine (l1User_c _ _).mono ?_); rintro e w9 ⟨rfl, rfl⟩; (try rw [ds]); (try rw [dk]); (try rw [da]); (try rw [db])))
          go_ret
          exact ⟨ret_bool (by simp only [okPk, ds, dk, da, db]; first | rfl | simp), f⟩
        | true =>
          cases dm : decide (1 ≤ m ∧ m ≤ 9) with
          | false =>
            go_enter Try.func116, Try.ntmps116
            go_wp2_with (first
              | ((with_reducible refine gate_dst (N := 1) rfl ?_); refine wpList_box rfl _ _ rfl #[.int .i64 s, .int .i64 k, .int .i64 a, .int .i64 b, .int .i64 m, .int .i64 u, .int .i64 v] rfl ?_; intro g_k1 w9 hg_k1 k1 f9; have zf_k1 := f.size; have hl_k1 := k1.lt; have z9 := f9.size; replace f := f.trans f9; (try clear r_k1); have r_k1 := k1.cells)
              | (go_at_call 61; (with_reducible refine (l6In_c _ _ _ _).mono ?_); rintro e w9 ⟨rfl, rfl⟩; (try rw [ds]); (try rw [dk]); (try rw [da]); (try rw [db]); (try rw [dm]))
              | (go_at_call 140; (with_reducible refine (l1User_c _ _).mono ?_); rintro e w9 ⟨rfl, rfl⟩; (try rw [ds]); (try rw [dk]); (try rw [da]); (try rw [db]); (try rw [dm])))
            go_ret
            exact ⟨ret_bool (by simp only [okPk, ds, dk, da, db, dm]; first | rfl | simp), f⟩
          | true =>
            cases du : decide (1 ≤ u ∧ u ≤ 90) with
            | false =>
              go_enter Try.func116, Try.ntmps116
              go_wp2_with (first
                | ((with_reducible refine gate_dst (N := 1) rfl ?_); refine wpList_box rfl _ _ rfl #[.int .i64 s, .int .i64 k, .int .i64 a, .int .i64 b, .int .i64 m, .int .i64 u, .int .i64 v] rfl ?_; intro g_k1 w9 hg_k1 k1 f9; have zf_k1 := f.size; have hl_k1 := k1.lt; have z9 := f9.size; replace f := f.trans f9; (try clear r_k1); have r_k1 := k1.cells)
                | (go_at_call 61; (with_reducible refine (l6In_c _ _ _ _).mono ?_); rintro e w9 ⟨rfl, rfl⟩; (try rw [ds]); (try rw [dk]); (try rw [da]); (try rw [db]); (try rw [dm]); (try rw [du]))
                | (go_at_call 140; (with_reducible refine (l1User_c _ _).mono ?_); rintro e w9 ⟨rfl, rfl⟩; (try rw [ds]); (try rw [dk]); (try rw [da]); (try rw [db]); (try rw [dm]); (try rw [du])))
              go_ret
              exact ⟨ret_bool (by simp only [okPk, ds, dk, da, db, dm, du]; first | rfl | simp), f⟩
            | true =>
              cases dv : decide (1 ≤ v ∧ v ≤ 9) with
              | false =>
                go_enter Try.func116, Try.ntmps116
                go_wp2_with (first
                  | ((with_reducible refine gate_dst (N := 1) rfl ?_); refine wpList_box rfl _ _ rfl #[.int .i64 s, .int .i64 k, .int .i64 a, .int .i64 b, .int .i64 m, .int .i64 u, .int .i64 v] rfl ?_; intro g_k1 w9 hg_k1 k1 f9; have zf_k1 := f.size; have hl_k1 := k1.lt; have z9 := f9.size; replace f := f.trans f9; (try clear r_k1); have r_k1 := k1.cells)
                  | (go_at_call 61; (with_reducible refine (l6In_c _ _ _ _).mono ?_); rintro e w9 ⟨rfl, rfl⟩; (try rw [ds]); (try rw [dk]); (try rw [da]); (try rw [db]); (try rw [dm]); (try rw [du]); (try rw [dv]))
                  | (go_at_call 140; (with_reducible refine (l1User_c _ _).mono ?_); rintro e w9 ⟨rfl, rfl⟩; (try rw [ds]); (try rw [dk]); (try rw [da]); (try rw [db]); (try rw [dm]); (try rw [du]); (try rw [dv])))
                go_ret
                exact ⟨ret_bool (by simp only [okPk, ds, dk, da, db, dm, du, dv]; first | rfl | simp), f⟩
              | true =>
                go_enter Try.func116, Try.ntmps116
                go_wp2_with (first
                  | ((with_reducible refine gate_dst (N := 1) rfl ?_); refine wpList_box rfl _ _ rfl #[.int .i64 s, .int .i64 k, .int .i64 a, .int .i64 b, .int .i64 m, .int .i64 u, .int .i64 v] rfl ?_; intro g_k1 w9 hg_k1 k1 f9; have zf_k1 := f.size; have hl_k1 := k1.lt; have z9 := f9.size; replace f := f.trans f9; (try clear r_k1); have r_k1 := k1.cells)
                  | (go_at_call 61; (with_reducible refine (l6In_c _ _ _ _).mono ?_); rintro e w9 ⟨rfl, rfl⟩; (try rw [ds]); (try rw [dk]); (try rw [da]); (try rw [db]); (try rw [dm]); (try rw [du]); (try rw [dv]))
                  | (go_at_call 140; (with_reducible refine (l1User_c _ _).mono ?_); rintro e w9 ⟨rfl, rfl⟩; (try rw [ds]); (try rw [dk]); (try rw [da]); (try rw [db]); (try rw [dm]); (try rw [du]); (try rw [dv])))
                go_ret
                exact ⟨ret_bool (by simp only [okPk, ds, dk, da, db, dm, du, dv]; first | rfl | simp), f⟩
theorem okPk_iff {p : Pk} : okPk p = true ↔ 1 ≤ p.seq ∧ p.seq ≤ 8 ∧ 1 ≤ p.kind ∧ p.kind ≤ 2 ∧ 1 ≤ p.frm ∧ p.frm ≤ 3 ∧ 0 ≤ p.dst ∧ p.dst ≤ 3 ∧ 1 ≤ p.sum ∧ p.sum ≤ 9 ∧ 1 ≤ p.til ∧ p.til ≤ 90 ∧ 1 ≤ p.ver ∧ p.ver ≤ 9 := by
  simp only [okPk, Bool.and_eq_true, decide_eq_true_eq, and_assoc]
theorem okPk_yes {p : Pk} (h : 1 ≤ p.seq ∧ p.seq ≤ 8 ∧ 1 ≤ p.kind ∧ p.kind ≤ 2 ∧ 1 ≤ p.frm ∧ p.frm ≤ 3 ∧ 0 ≤ p.dst ∧ p.dst ≤ 3 ∧ 1 ≤ p.sum ∧ p.sum ≤ 9 ∧ 1 ≤ p.til ∧ p.til ≤ 90 ∧ 1 ≤ p.ver ∧ p.ver ≤ 9) : okPk p = true := okPk_iff.2 h
theorem okPk_no {p : Pk} (h : ¬ (1 ≤ p.seq ∧ p.seq ≤ 8 ∧ 1 ≤ p.kind ∧ p.kind ≤ 2 ∧ 1 ≤ p.frm ∧ p.frm ≤ 3 ∧ 0 ≤ p.dst ∧ p.dst ≤ 3 ∧ 1 ≤ p.sum ∧ p.sum ≤ 9 ∧ 1 ≤ p.til ∧ p.til ≤ 90 ∧ 1 ≤ p.ver ∧ p.ver ≤ 9)) : okPk p = false := by
  cases e : okPk p
  · rfl
  · exact absurd (okPk_iff.1 e) h
set_option maxHeartbeats 3200000 in
theorem PacketOk_c (w : World) (p : Pk) : Calls Try.prog 118 #[.agg p.cells.toArray] w (Ret (.bool (okPk p)) w) := by
  obtain ⟨s, k, a, b, m, u, v⟩ := p
  have f := Fr.refl w
  go_enter Try.func118, Try.ntmps118
  go_wp2_with (first
    | ((with_reducible refine gate_dst (N := 1) rfl ?_); refine wpList_box rfl _ _ rfl #[.int .i64 s, .int .i64 k, .int .i64 a, .int .i64 b, .int .i64 m, .int .i64 u, .int .i64 v] rfl ?_; intro g_k1 w9 hg_k1 k1 f9; have zf_k1 := f.size; have hl_k1 := k1.lt; have z9 := f9.size; replace f := f.trans f9; (try clear r_k1); have r_k1 := k1.cells)
    | (go_at_call 143; (with_reducible refine (userOk_c _ _).mono ?_); rintro e w9 ⟨rfl, rfl⟩))
  all_goals
    go_ret
    refine ⟨ret_bool ?_, f⟩
    clear k1 f
    try simp only [bne_iff_ne, ne_eq, bne_eq_false_iff_eq, Bool.not_eq_true', Bool.not_eq_eq_eq_not, Bool.not_true, Bool.not_false, decide_eq_false_iff_not, Bool.not_eq_false', decide_eq_true_eq] at *
    first
      | exact (okPk_no (by simp only []; omega)).symm
      | exact (okPk_yes (by simp only []; omega)).symm
      | (by_cases hv : v ≤ 9; (rw [okPk_yes (by simp only []; omega)]; simp [hv]); (rw [okPk_no (by simp only []; omega)]; simp [hv]))
end Go.Proofs.Ytapdcgjccckjeaa
namespace Go.Proofs.Ytapdcgjccckjeaa
set_option maxRecDepth 100000
set_option linter.unusedVariables false
set_option linter.unusedSimpArgs false
open Go.RowKit
def Pk.lst (x : Pk) : List Value := [.int .i64 x.seq, .int .i64 x.kind, .int .i64 x.frm, .int .i64 x.dst, .int .i64 x.sum, .int .i64 x.til, .int .i64 x.ver]
theorem PacketOk_l (w : World) (x : Pk) : Calls Try.prog 118 #[.agg #[.int .i64 x.seq, .int .i64 x.kind, .int .i64 x.frm, .int .i64 x.dst, .int .i64 x.sum, .int .i64 x.til, .int .i64 x.ver]] w (Ret (.bool (okPk x)) w) := PacketOk_c w x
theorem sPacketOk_l (w : World) (x : Pk) : Calls Try.prog 116 #[.agg #[.int .i64 x.seq, .int .i64 x.kind, .int .i64 x.frm, .int .i64 x.dst, .int .i64 x.sum, .int .i64 x.til, .int .i64 x.ver]] w (Ret (.bool (okPk x)) w) := sPacketOk_c w x
/-- Element k, as the walks read it: whole, and by its fields. -/
structure PkAt (w : World) (ad : Addr) (x : Pk) : Prop where
  cells : ∀ j, j < 7 → w.cell? (ad.add j) = x.lst[j]?
theorem PkAt.fr {w w' : World} {ad : Addr} {x : Pk} (h : PkAt w ad x) (f : Fr w w') : PkAt w' ad x := ⟨fun j hj => by
  have h1 := h.cells j hj
  have h2 : ∃ v, x.lst[j]? = some v := ⟨x.lst[j]'(by simpa [Pk.lst] using hj), List.getElem?_eq_getElem _⟩
  obtain ⟨v, hv⟩ := h2
  rw [hv] at h1 ⊢
  exact f.cell h1⟩
theorem pkAt_of_row {w : World} {A : Option Addr} {n c : Nat} {xs : List Pk} (h : tPk.row w (.slice A n c) xs) (k : Nat) (hk : k < xs.length) : ∃ ad, A = some ad ∧ PkAt w (ad.add (k * 7)) xs[k] := by
  obtain ⟨ad, e, _, hc⟩ := row_pk_at h k hk
  exact ⟨ad, e, ⟨fun j hj => hc j hj⟩⟩
theorem PkAt.at_ {w : World} {ad : Addr} {x : Pk} (h : PkAt w ad x) (j : Nat) (v : Value) (hv : x.lst[j]? = some v) : w.cell? (ad.add j) = some v := by
  have hj : j < 7 := by
    have := (List.getElem?_eq_some_iff.1 hv).1
    simpa [Pk.lst] using this
  rw [h.cells j hj, hv]
section
variable {P : Program} {ops : Array Oper} {rest : List Oper} {o : Oper} {a : Act} {Q : Exit → Act → World → Prop} {W : World}
theorem wpList_pkld (hw : Region.wanted o (yielded ops a.tmps) = true) (ty : TypeId) (x : Operand) (ho : o.op = .load ty x) {ad : Addr} (hx : a.eval x = .pointer (some ad)) {p : Pk} (hc : PkAt W ad p) (d : TypeDesc)
    (hu : P.underlying ty = some d) (hd : (match d with | .struct _ | .array _ _ => true | _ => false) = true) (hi : (P.info? ty).map (·.size) = some 7) (h : wpList P ops Q rest (a.put o.dst (.agg #[.int .i64 p.seq, .int .i64 p.kind, .int .i64 p.frm, .int .i64 p.dst, .int .i64 p.sum, .int .i64 p.til, .int .i64 p.ver])) W) : wpList P ops Q (o :: rest) a W := by
  refine wpList_of_run hw (v := .agg p.lst.toArray) ?_ h
  unfold execOp
  simp only [ho, hx, Instr.loadAt, Instr.sureAddr, Sem.run_bind, Sem.run_pure, Result.andThen_ok, run_loadVar_cells W ad 7 ty p.lst d rfl hc.cells hu hd hi]
theorem yields_pkld {T : World → Prop} (hw : Region.wanted o (yielded ops a.tmps) = true) (ty : TypeId) (x : Operand) (ho : o.op = .load ty x) {ad : Addr} (hx : a.eval x = .pointer (some ad)) {p : Pk} (hc : ∀ w, T w → PkAt w ad p) (d : TypeDesc)
    (hu : P.underlying ty = some d) (hd : (match d with | .struct _ | .array _ _ => true | _ => false) = true) (hi : (P.info? ty).map (·.size) = some 7) : YieldsIf P ops T o (.agg #[.int .i64 p.seq, .int .i64 p.kind, .int .i64 p.frm, .int .i64 p.dst, .int .i64 p.sum, .int .i64 p.til, .int .i64 p.ver]) a := yields_of_run hw fun W hT => by
  unfold execOp
  have := run_loadVar_cells (P := P) W ad 7 ty p.lst d rfl (hc W hT).cells hu hd hi
  simp only [ho, hx, Instr.loadAt, Instr.sureAddr, Sem.run_bind, Sem.run_pure, Result.andThen_ok, this]
  rfl
end
end Go.Proofs.Ytapdcgjccckjeaa
namespace Go.Proofs.Ytapdcgjccckjeaa
set_option maxRecDepth 100000
set_option linter.unusedVariables false
set_option linter.unusedSimpArgs false
open Go.RowKit
def rng2 (x : Int) : Bool := decide (0 ≤ x ∧ x ≤ 2)
def gotOk (gs : List Int) : Bool := gs.length == 8 && gs.all rng2
def pkAtOk (v : Int) (k : Nat) (x : Pk) (l b : Bool) : Bool := okPk x && decide (x.seq = (k : Int) + 1) && !(l && b) && decide (x.ver ≤ v)
def pksOk (s : St) (k : Nat) : Bool := pkAtOk s.vsn k (s.sent.getD k zPk) (s.live.getD k false) (s.back.getD k false)
def sentOk (s : St) : Bool := decide (s.sent.length ≤ 8) && s.live.length == s.sent.length && s.back.length == s.sent.length && (List.range s.sent.length).all (pksOk s)
def wantOk (s : St) : Bool := if s.way = 4 then decide (s.want = s.vsn + 1) && decide (s.want ≤ 9) else s.want == 0
def okSt (s : St) : Bool := decide (0 ≤ s.way ∧ s.way ≤ 4) && decide (1 ≤ s.vsn ∧ s.vsn ≤ 9) && wantOk s && sentOk s && gotOk s.got
theorem sentOk_bad {s : St} {k : Nat} (hk : k < s.sent.length) (h : pksOk s k = false) : sentOk s = false := by
  cases e : sentOk s with
  | false => rfl
  | true =>
    simp only [sentOk, Bool.and_eq_true, List.all_eq_true] at e
    have := e.2 k (List.mem_range.2 hk)
    rw [h] at this
    cases this
theorem range_all_succ {p : Nat → Bool} {k : Nat} (h : (List.range k).all p = true) (hk : p k = true) : (List.range (k + 1)).all p = true := by
  rw [List.range_succ, List.all_append, h]
  simp [hk]
theorem pksOk_at {s : St} {k : Nat} (h1 : k < s.sent.length) (h2 : k < s.live.length) (h3 : k < s.back.length) : pksOk s k = pkAtOk s.vsn k s.sent[k] s.live[k] s.back[k] := by
  simp [pksOk, h1, h2, h3]
theorem gotOk_bad {gs : List Int} {k : Nat} (hk : k < gs.length) (h : rng2 gs[k] = false) : gotOk gs = false := by
  cases e : gotOk gs with
  | false => rfl
  | true =>
    simp only [gotOk, Bool.and_eq_true, List.all_eq_true] at e
    have := e.2 _ (List.getElem_mem hk)
    rw [h] at this
    cases this
theorem allr_succ {gs : List Int} {k : Nat} (hk : k < gs.length) (h : (gs.take k).all rng2 = true) (hr : rng2 gs[k] = true) : (gs.take (k + 1)).all rng2 = true := by
  rw [List.take_succ_eq_append_getElem hk, List.all_append, h]
  simp [hr]
/-- The cells of a state's own struct. -/
def stCells (s : St) (A1 A2 A3 A4 : Option Addr) (c1 c2 c3 c4 : Nat) : List Value := [.int .i64 s.way, .int .i64 s.vsn, .int .i64 s.want, .slice A1 s.sent.length c1, .slice A2 s.live.length c2, .slice A3 s.back.length c3, .slice A4 s.got.length c4]
set_option maxRecDepth 100000 in
set_option maxHeartbeats 3200000 in
theorem stateSentOk_c (w : World) (s : St) (c0 : List Value) (h1 : tSt.rd w s c0) : Calls Try.prog 121 #[.agg c0.toArray] w (Ret (.bool (sentOk s)) w) := by
  obtain ⟨v1, v2, v3, v4, rfl, h11, h12, h13, h14, h15⟩ := h1
  obtain ⟨A1, c1, rfl⟩ := h11.val
  obtain ⟨A2, c2, rfl⟩ := h12.val
  obtain ⟨A3, c3, rfl⟩ := h13.val
  obtain ⟨A4, c4, rfl⟩ := h14.val
  have m1 := h11.le
  have m2 := h12.le
  have m3 := h13.le
  have S := Sep.start w
  clear h15
  by_cases e1 : s.sent.length ≤ 8
  case neg =>
    have r := Lib.hid (show sentOk s = false by simp [sentOk, e1])
    have t1 : decide (8 < s.sent.length) = true := decide_eq_true (by omega)
    have t1' : decide ((8 : Int) < (s.sent.length : Int)) = true := decide_eq_true (by omega)
    clear e1
    go_enter Try.func121, Try.ntmps121
    go_wp2_with (first | ((with_reducible refine gate_box rfl ?_); refine aBx S ?_; clear S; intro g9 w9 z9 S) | ((with_reducible refine gate_load rfl ?_); first | refine aLd S ?_ | refine aPt S ?_ | refine aL1 S ?_))
    go_ret
    exact ⟨by rw [r.out]; rfl, S.frame⟩
  have t1' : decide ((8 : Int) < (s.sent.length : Int)) = false := decide_eq_false (by omega)
  by_cases e2 : s.live.length = s.sent.length
  case neg =>
    have r := Lib.hid (show sentOk s = false by simp [sentOk, e2])
    have t2 : ((s.live.length : Int) != (s.sent.length : Int)) = true := by simp; omega
    have t2' : ((s.live.length : Int) == (s.sent.length : Int)) = false := by simp; omega
    clear e2
    go_enter Try.func121, Try.ntmps121
    go_wp2_with (first | ((with_reducible refine gate_box rfl ?_); refine aBx S ?_; clear S; intro g9 w9 z9 S) | ((with_reducible refine gate_load rfl ?_); first | refine aLd S ?_ | refine aPt S ?_ | refine aL1 S ?_))
    go_ret
    exact ⟨by rw [r.out]; rfl, S.frame⟩
  by_cases e3 : s.back.length = s.sent.length
  case neg =>
    have r := Lib.hid (show sentOk s = false by simp [sentOk, e3])
    have t3 : ((s.back.length : Int) != (s.sent.length : Int)) = true := by simp; omega
    have t3' : ((s.back.length : Int) == (s.sent.length : Int)) = false := by simp; omega
    rw [e2]
    have E2 := Lib.hid e2
    clear e3 e2
    go_enter Try.func121, Try.ntmps121
    go_wp2_with (first | ((with_reducible refine gate_box rfl ?_); refine aBx S ?_; clear S; intro g9 w9 z9 S) | ((with_reducible refine gate_load rfl ?_); first | refine aLd S ?_ | refine aPt S ?_ | refine aL1 S ?_))
    go_ret
    exact ⟨by rw [r.out]; rfl, S.frame⟩
  obtain ⟨n, hn⟩ : ∃ n, s.sent.length = n := ⟨_, rfl⟩
  rw [hn] at e1 e2 e3 t1' m1 ⊢
  rw [e2, e3]
  have E1 := Lib.hid hn
  have E2 := Lib.hid e2
  have E3 := Lib.hid e3
  clear hn e2 e3 m1 m2 m3
  go_enter Try.func121, Try.ntmps121
  go_wp2_with (first
    | ((with_reducible refine gate_dst (N := 1) rfl ?_); refine aBx S ?_; clear S; intro gS w9 z9 S)
    | ((with_reducible refine gate_box rfl ?_); refine aBx S ?_; clear S; intro g9 w9 z9 S) | ((with_reducible refine gate_load rfl ?_); first | refine aLd S ?_ | refine aPt S ?_ | refine aL1 S ?_))
  go_loopw [30] (fun i wr => ∃ k : Nat, k ≤ n ∧ i = .int .i64 k ∧ (List.range k).all (pksOk s) = true ∧ Sep [] w [aBox gS 30 7 [.int .i64 s.way, .int .i64 s.vsn, .int .i64 s.want, .slice A1 n c1, .slice A2 n c2, .slice A3 n c3, .slice A4 s.got.length c4]] wr) (fun i _ => n - (intOf i).toNat)
  case atStart => exact ⟨0, Nat.zero_le _, rfl, rfl, S⟩
  case round =>
    clear S
    obtain ⟨k, hk, rfl, hall, S⟩ := hrel
    have HA := Lib.hid hall
    clear hall
    by_cases hlt : k < n
    · obtain ⟨ad1, rfl, g1⟩ := pkAt_of_row h11 k (by rw [E1.out]; exact hlt)
      obtain ⟨ad2, rfl, g2⟩ := row_bool_at h12 k (by rw [E2.out]; exact hlt)
      obtain ⟨ad3, rfl, g3⟩ := row_bool_at h13 k (by rw [E3.out]; exact hlt)
      have hat := pksOk_at (s := s) (k := k) (by rw [E1.out]; exact hlt) (by rw [E2.out]; exact hlt) (by rw [E3.out]; exact hlt)
      have hin : k < s.sent.length := by rw [E1.out]; exact hlt
      generalize s.sent[k]'(by rw [E1.out]; exact hlt) = x at *
      generalize s.live[k]'(by rw [E2.out]; exact hlt) = l at *
      generalize s.back[k]'(by rw [E3.out]; exact hlt) = b at *
      have HAT := Lib.hid hat
      have HIN := Lib.hid hin
      have G2 := Lib.hid g2
      have G3 := Lib.hid g3
      have p1 : (k : Int) < (n : Int) := by omega
      clear hat hin g2 g3
      cases o1 : okPk x with
      | false =>
        have O1 := Lib.hid o1
        have R := Lib.hid (sentOk_bad (s := s) (k := k) HIN.out (by rw [HAT.out]; simp [pkAtOk, o1]))
        clear o1
        go_wp2_with (first
          | ((with_reducible refine gate_dst (N := 34) rfl ?_); refine wpList_pkld (by rfl) 88 _ rfl rfl (g1.fr S.frame) _ Try.underlying88 rfl ts88 ?_)
          | (go_at_call 118; (with_reducible refine (PacketOk_l _ x).mono ?_); rintro e w9 ⟨rfl, f9⟩; rw [O1.out]; replace S := S.fr f9; clear f9)
          | ((with_reducible refine gate_dst (N := 4) rfl ?_); refine aAl S ?_; clear S; intro g9 w9 z9 S) | ((with_reducible refine gate_st rfl ?_); (first | refine aS1 S ?_ | refine aSt S ?_ | refine aSp S ?_); clear S; intro w9 S) | ((with_reducible refine gate_box rfl ?_); refine aBx S ?_; clear S; intro g9 w9 z9 S) | ((with_reducible refine gate_load rfl ?_); first | refine aLd S ?_ | refine aPt S ?_ | refine aL1 S ?_))
        go_ret
        exact ⟨by rw [R.out]; rfl, S.frame⟩
      | true =>
        have O1 := Lib.hid o1
        clear o1
        by_cases hq : x.seq = (k : Int) + 1
        case neg =>
          have tq : (x.seq != (k : Int) + 1) = true := by simpa using hq
          have tq' : (x.seq == (k : Int) + 1) = false := by simpa using hq
          have R := Lib.hid (sentOk_bad (s := s) (k := k) HIN.out (by rw [HAT.out]; simp [pkAtOk, O1.out, hq]))
          go_wp2_with (first
            | ((with_reducible refine gate_dst (N := 34) rfl ?_); refine wpList_pkld (by rfl) 88 _ rfl rfl (g1.fr S.frame) _ Try.underlying88 rfl ts88 ?_)
            | ((with_reducible refine gate_dst (N := 57) rfl ?_); refine wpList_rowint (by rfl) 4 _ rfl rfl (S.frame.cell G2.out) _ Try.underlying4 rfl ?_)
            | ((with_reducible refine gate_dst (N := 63) rfl ?_); refine wpList_rowint (by rfl) 4 _ rfl rfl (S.frame.cell G3.out) _ Try.underlying4 rfl ?_)
            | (go_at_call 118; (with_reducible refine (PacketOk_l _ x).mono ?_); rintro e w9 ⟨rfl, f9⟩; rw [O1.out]; replace S := S.fr f9; clear f9)
            | ((with_reducible refine gate_dst (N := 4) rfl ?_); refine aAl S ?_; clear S; intro g9 w9 z9 S) | ((with_reducible refine gate_st rfl ?_); (first | refine aS1 S ?_ | refine aSt S ?_ | refine aSp S ?_); clear S; intro w9 S) | ((with_reducible refine gate_box rfl ?_); refine aBx S ?_; clear S; intro g9 w9 z9 S) | ((with_reducible refine gate_load rfl ?_); first | refine aLd S ?_ | refine aPt S ?_ | refine aL1 S ?_))
          go_ret
          exact ⟨by rw [R.out]; rfl, S.frame⟩
        have tq : (x.seq != (k : Int) + 1) = false := by simpa using hq
        by_cases hv : x.ver ≤ s.vsn
        case neg =>
          have tv : decide (s.vsn < x.ver) = true := decide_eq_true (by omega)
          have Q := Lib.hid hq
          clear hq
          have R := Lib.hid (sentOk_bad (s := s) (k := k) HIN.out (by rw [HAT.out]; simp [pkAtOk, O1.out, hv]))
          go_wp2_with (first
            | ((with_reducible refine gate_dst (N := 34) rfl ?_); refine wpList_pkld (by rfl) 88 _ rfl rfl (g1.fr S.frame) _ Try.underlying88 rfl ts88 ?_)
            | ((with_reducible refine gate_dst (N := 57) rfl ?_); refine wpList_rowint (by rfl) 4 _ rfl rfl (S.frame.cell G2.out) _ Try.underlying4 rfl ?_)
            | ((with_reducible refine gate_dst (N := 63) rfl ?_); refine wpList_rowint (by rfl) 4 _ rfl rfl (S.frame.cell G3.out) _ Try.underlying4 rfl ?_)
            | (go_at_call 118; (with_reducible refine (PacketOk_l _ x).mono ?_); rintro e w9 ⟨rfl, f9⟩; rw [O1.out]; replace S := S.fr f9; clear f9)
            | ((with_reducible refine gate_dst (N := 4) rfl ?_); refine aAl S ?_; clear S; intro g9 w9 z9 S) | ((with_reducible refine gate_st rfl ?_); (first | refine aS1 S ?_ | refine aSt S ?_ | refine aSp S ?_); clear S; intro w9 S) | ((with_reducible refine gate_box rfl ?_); refine aBx S ?_; clear S; intro g9 w9 z9 S) | ((with_reducible refine gate_load rfl ?_); first | refine aLd S ?_ | refine aPt S ?_ | refine aL1 S ?_))
          go_ret
          exact ⟨by rw [R.out]; rfl, S.frame⟩
        have tv : decide (s.vsn < x.ver) = false := decide_eq_false (by omega)
        cases l with
        | false =>
          have R := Lib.hid (range_all_succ HA.out (by rw [HAT.out]; simp [pkAtOk, O1.out, hq, hv]))
          clear hq hv
          go_wp2_with (first
            | ((with_reducible refine gate_dst (N := 34) rfl ?_); refine wpList_pkld (by rfl) 88 _ rfl rfl (g1.fr S.frame) _ Try.underlying88 rfl ts88 ?_)
            | ((with_reducible refine gate_dst (N := 57) rfl ?_); refine wpList_rowint (by rfl) 4 _ rfl rfl (S.frame.cell G2.out) _ Try.underlying4 rfl ?_)
            | ((with_reducible refine gate_dst (N := 63) rfl ?_); refine wpList_rowint (by rfl) 4 _ rfl rfl (S.frame.cell G3.out) _ Try.underlying4 rfl ?_)
            | (go_at_call 118; (with_reducible refine (PacketOk_l _ x).mono ?_); rintro e w9 ⟨rfl, f9⟩; rw [O1.out]; replace S := S.fr f9; clear f9)
            | ((with_reducible refine gate_dst (N := 4) rfl ?_); refine aAl S ?_; clear S; intro g9 w9 z9 S) | ((with_reducible refine gate_st rfl ?_); (first | refine aS1 S ?_ | refine aSt S ?_ | refine aSp S ?_); clear S; intro w9 S) | ((with_reducible refine gate_box rfl ?_); refine aBx S ?_; clear S; intro g9 w9 z9 S) | ((with_reducible refine gate_load rfl ?_); first | refine aLd S ?_ | refine aPt S ?_ | refine aL1 S ?_))
          go_roundw
          case rel => exact ⟨k + 1, by omega, by go_num, R.out, (Sep.only1 (a1 := aBox gS _ _ _) S delA)⟩
          case measure => simp [intOf]; omega
        | true =>
          cases b with
          | false =>
            have R := Lib.hid (range_all_succ HA.out (by rw [HAT.out]; simp [pkAtOk, O1.out, hq, hv]))
            clear hq hv
            go_wp2_with (first
              | ((with_reducible refine gate_dst (N := 34) rfl ?_); refine wpList_pkld (by rfl) 88 _ rfl rfl (g1.fr S.frame) _ Try.underlying88 rfl ts88 ?_)
              | ((with_reducible refine gate_dst (N := 57) rfl ?_); refine wpList_rowint (by rfl) 4 _ rfl rfl (S.frame.cell G2.out) _ Try.underlying4 rfl ?_)
              | ((with_reducible refine gate_dst (N := 63) rfl ?_); refine wpList_rowint (by rfl) 4 _ rfl rfl (S.frame.cell G3.out) _ Try.underlying4 rfl ?_)
              | (go_at_call 118; (with_reducible refine (PacketOk_l _ x).mono ?_); rintro e w9 ⟨rfl, f9⟩; rw [O1.out]; replace S := S.fr f9; clear f9)
              | ((with_reducible refine gate_dst (N := 4) rfl ?_); refine aAl S ?_; clear S; intro g9 w9 z9 S) | ((with_reducible refine gate_st rfl ?_); (first | refine aS1 S ?_ | refine aSt S ?_ | refine aSp S ?_); clear S; intro w9 S) | ((with_reducible refine gate_box rfl ?_); refine aBx S ?_; clear S; intro g9 w9 z9 S) | ((with_reducible refine gate_load rfl ?_); first | refine aLd S ?_ | refine aPt S ?_ | refine aL1 S ?_))
            go_roundw
            case rel => exact ⟨k + 1, by omega, by go_num, R.out, (Sep.only1 (a1 := aBox gS _ _ _) S delA)⟩
            case measure => simp [intOf]; omega
          | true =>
            have R := Lib.hid (sentOk_bad (s := s) (k := k) HIN.out (by rw [HAT.out]; simp [pkAtOk, O1.out, hq, hv]))
            clear hq hv
            go_wp2_with (first
              | ((with_reducible refine gate_dst (N := 34) rfl ?_); refine wpList_pkld (by rfl) 88 _ rfl rfl (g1.fr S.frame) _ Try.underlying88 rfl ts88 ?_)
              | ((with_reducible refine gate_dst (N := 57) rfl ?_); refine wpList_rowint (by rfl) 4 _ rfl rfl (S.frame.cell G2.out) _ Try.underlying4 rfl ?_)
              | ((with_reducible refine gate_dst (N := 63) rfl ?_); refine wpList_rowint (by rfl) 4 _ rfl rfl (S.frame.cell G3.out) _ Try.underlying4 rfl ?_)
              | (go_at_call 118; (with_reducible refine (PacketOk_l _ x).mono ?_); rintro e w9 ⟨rfl, f9⟩; rw [O1.out]; replace S := S.fr f9; clear f9)
              | ((with_reducible refine gate_dst (N := 4) rfl ?_); refine aAl S ?_; clear S; intro g9 w9 z9 S) | ((with_reducible refine gate_st rfl ?_); (first | refine aS1 S ?_ | refine aSt S ?_ | refine aSp S ?_); clear S; intro w9 S) | ((with_reducible refine gate_box rfl ?_); refine aBx S ?_; clear S; intro g9 w9 z9 S) | ((with_reducible refine gate_load rfl ?_); first | refine aLd S ?_ | refine aPt S ?_ | refine aL1 S ?_))
            go_ret
            exact ⟨by rw [R.out]; rfl, S.frame⟩
    · obtain rfl : k = n := by omega
      have R := Lib.hid (show sentOk s = true by simp [sentOk, E1.out, E2.out, E3.out, e1]; simpa using HA.out)
      go_wp2
      go_ret
      exact ⟨by rw [R.out]; rfl, S.frame⟩
end Go.Proofs.Ytapdcgjccckjeaa
namespace Go.Proofs.Ytapdcgjccckjeaa
set_option maxRecDepth 100000
set_option linter.unusedVariables false
set_option linter.unusedSimpArgs false
open Go.RowKit
def fateV (n : Int) : Value := if n = 0 then .iface 173 (.agg #[]) else if n = 1 then .iface 174 (.agg #[]) else if n = 2 then .iface 175 (.agg #[]) else .nilIface
theorem fateOf_c (w : World) (n : Int) : Calls Try.prog 146 #[.int .i64 n] w fun e w' => e = .returned (.tuple #[fateV n, .bool (rng2 n)]) ∧ w = w' := by
  by_cases h0 : n = 0
  · subst h0
    go_enter Try.func146, Try.ntmps146
    go_wp2
    go_ret2
    exact ⟨by simp [fateV, rng2], rfl⟩
  by_cases h1 : n = 1
  · subst h1
    go_enter Try.func146, Try.ntmps146
    go_wp2
    go_ret2
    exact ⟨by simp [fateV, rng2], rfl⟩
  by_cases h2 : n = 2
  · subst h2
    go_enter Try.func146, Try.ntmps146
    go_wp2
    go_ret2
    exact ⟨by simp [fateV, rng2], rfl⟩
  have b0 : (n == 0) = false := by simpa using h0
  have b1 : (n == 1) = false := by simpa using h1
  have b2 : (n == 2) = false := by simpa using h2
  have r := Lib.hid (show fateV n = .nilIface ∧ rng2 n = false by simp [fateV, rng2, h0, h1, h2]; omega)
  clear h0 h1 h2
  go_enter Try.func146, Try.ntmps146
  go_wp2
  go_ret2
  exact ⟨by rw [r.out.1, r.out.2]; rfl, rfl⟩
theorem fateEntry_c (w : World) (n : Int) (hn : n = 0 ∨ n = 1 ∨ n = 2) : Calls Try.prog 154 #[fateV n] w fun e w' => e = .returned (.int .i64 n) ∧ w = w' := by
  have t11 : ∀ w, (Instr.typeAssert (.iface 174 (.agg #[])) 159 174 true).run Try.prog w = .ok (.tuple #[.agg #[], .bool true]) w := fun w => by kernel_rfl
  have t01 : ∀ w, (Instr.typeAssert (.iface 173 (.agg #[])) 159 174 true).run Try.prog w = .ok (.tuple #[.agg #[], .bool false]) w := fun w => by kernel_rfl
  have t21 : ∀ w, (Instr.typeAssert (.iface 175 (.agg #[])) 159 174 true).run Try.prog w = .ok (.tuple #[.agg #[], .bool false]) w := fun w => by kernel_rfl
  have t02 : ∀ w, (Instr.typeAssert (.iface 173 (.agg #[])) 159 175 true).run Try.prog w = .ok (.tuple #[.agg #[], .bool false]) w := fun w => by kernel_rfl
  have t22 : ∀ w, (Instr.typeAssert (.iface 175 (.agg #[])) 159 175 true).run Try.prog w = .ok (.tuple #[.agg #[], .bool true]) w := fun w => by kernel_rfl
  rcases hn with rfl | rfl | rfl
  · rw [show fateV 0 = .iface 173 (.agg #[]) from rfl]
    go_enter Try.func154, Try.ntmps154
    go_wp2
    go_ret
    exact ⟨rfl, rfl⟩
  · rw [show fateV 1 = .iface 174 (.agg #[]) from rfl]
    go_enter Try.func154, Try.ntmps154
    go_wp2
    go_ret
    exact ⟨rfl, rfl⟩
  · rw [show fateV 2 = .iface 175 (.agg #[]) from rfl]
    go_enter Try.func154, Try.ntmps154
    go_wp2
    go_ret
    exact ⟨rfl, rfl⟩
theorem fateOf_n (w : World) (n : Int) {r : Bool} (h : rng2 n = r) : Calls Try.prog 146 #[.int .i64 n] w fun e w' => e = .returned (.tuple #[fateV n, .bool r]) ∧ w = w' := h ▸ fateOf_c w n
set_option maxHeartbeats 1600000 in
theorem stateGotOk_c (w : World) (s : St) (c0 : List Value) (h1 : tSt.rd w s c0) : Calls Try.prog 122 #[.agg c0.toArray] w (Ret (.bool (gotOk s.got)) w) := by
  obtain ⟨v1, v2, v3, v4, rfl, h11, h12, h13, h14, h15⟩ := h1
  obtain ⟨A4, c4, rfl⟩ := h14.val
  have S := Sep.start w
  have m4 := h14.le
  clear h15
  by_cases e1 : s.got.length = 8
  case neg =>
    have r := Lib.hid (show gotOk s.got = false by simp [gotOk, e1])
    have t2 : ((s.got.length : Int) != 8) = true := by simp; omega
    have t2' : ((s.got.length : Int) == 8) = false := by simp; omega
    clear e1
    go_enter Try.func122, Try.ntmps122
    go_wp2_with (first | ((with_reducible refine gate_box rfl ?_); refine aBx S ?_; clear S; intro g9 w9 z9 S) | ((with_reducible refine gate_load rfl ?_); first | refine aLd S ?_ | refine aPt S ?_ | refine aL1 S ?_))
    go_ret
    exact ⟨by rw [r.out]; rfl, S.frame⟩
  have E1 := Lib.hid e1
  rw [e1]
  clear e1 m4
  go_enter Try.func122, Try.ntmps122
  go_wp2_with (first
    | ((with_reducible refine gate_dst (N := 1) rfl ?_); refine aBx S ?_; clear S; intro gS w9 z9 S)
    | ((with_reducible refine gate_box rfl ?_); refine aBx S ?_; clear S; intro g9 w9 z9 S) | ((with_reducible refine gate_load rfl ?_); first | refine aLd S ?_ | refine aPt S ?_ | refine aL1 S ?_))
  go_loopw [14] (fun i wr => ∃ k : Nat, k ≤ 8 ∧ i = .int .i64 k ∧ (s.got.take k).all rng2 = true ∧ Sep [] w [aBox gS 30 7 [.int .i64 s.way, .int .i64 s.vsn, .int .i64 s.want, v1, v2, v3, .slice A4 8 c4]] wr) (fun i _ => 8 - (intOf i).toNat)
  case atStart => exact ⟨0, Nat.zero_le _, rfl, rfl, S⟩
  case round =>
    clear S
    obtain ⟨k, hk, rfl, hall, S⟩ := hrel
    have HA := Lib.hid hall
    clear hall
    by_cases hlt : k < 8
    · have hin : k < s.got.length := by rw [E1.out]; exact hlt
      obtain ⟨ad1, rfl, g1⟩ := row_int_at h14 k hin
      have HIN := Lib.hid hin
      have G1 := Lib.hid g1
      clear g1
      have p1 : (k : Int) < 8 := by omega
      cases o1 : rng2 (s.got[k]'HIN.out) with
      | false =>
        have R := Lib.hid (gotOk_bad HIN.out o1)
        have O1 := Lib.hid o1
        clear o1
        go_wp2_with (first
          | ((with_reducible refine gate_dst (N := 17) rfl ?_); refine wpList_rowint (by rfl) 3 _ rfl rfl (S.frame.cell G1.out) _ Try.underlying3 rfl ?_)
          | (go_at_call 146; (with_reducible refine (fateOf_n _ _ O1.out).mono ?_); rintro e w9 ⟨rfl, rfl⟩)
          | ((with_reducible refine gate_box rfl ?_); refine aBx S ?_; clear S; intro g9 w9 z9 S) | ((with_reducible refine gate_load rfl ?_); first | refine aLd S ?_ | refine aPt S ?_ | refine aL1 S ?_))
        go_ret
        exact ⟨by rw [R.out]; rfl, S.frame⟩
      | true =>
        have R := Lib.hid (allr_succ HIN.out HA.out o1)
        have O1 := Lib.hid o1
        clear o1
        go_wp2_with (first
          | ((with_reducible refine gate_dst (N := 17) rfl ?_); refine wpList_rowint (by rfl) 3 _ rfl rfl (S.frame.cell G1.out) _ Try.underlying3 rfl ?_)
          | (go_at_call 146; (with_reducible refine (fateOf_n _ _ O1.out).mono ?_); rintro e w9 ⟨rfl, rfl⟩)
          | ((with_reducible refine gate_box rfl ?_); refine aBx S ?_; clear S; intro g9 w9 z9 S) | ((with_reducible refine gate_load rfl ?_); first | refine aLd S ?_ | refine aPt S ?_ | refine aL1 S ?_))
        go_roundw
        case rel => exact ⟨k + 1, by omega, by go_num, R.out, S⟩
        case measure => simp [intOf]; omega
    · obtain rfl : k = 8 := by omega
      have R := Lib.hid (show gotOk s.got = true by have h := HA.out; rw [List.take_of_length_le (by rw [E1.out]; omega)] at h; simp [gotOk, E1.out, h])
      go_wp2
      go_ret
      exact ⟨by rw [R.out]; rfl, S.frame⟩
theorem stateSentOk_r (w : World) (s : St) (c0 : List Value) (h1 : tSt.rd w s c0) {r : Bool} (h : sentOk s = r) : Calls Try.prog 121 #[.agg c0.toArray] w (Ret (.bool r) w) := h ▸ stateSentOk_c w s c0 h1
theorem stateGotOk_r (w : World) (s : St) (c0 : List Value) (h1 : tSt.rd w s c0) {r : Bool} (h : gotOk s.got = r) : Calls Try.prog 122 #[.agg c0.toArray] w (Ret (.bool r) w) := h ▸ stateGotOk_c w s c0 h1
set_option maxHeartbeats 1600000 in
theorem StateOk_c (w : World) (s : St) (c0 : List Value) (h1 : tSt.rd w s c0) : Calls Try.prog 68 #[.agg c0.toArray] w (Ret (.bool (okSt s)) w) := by
  obtain ⟨v1, v2, v3, v4, rfl, h11, h12, h13, h14, ⟨i1, i2⟩, ⟨i3, i4⟩, i5, i6⟩ := id h1
  have S := Sep.start w
  have Q := Lib.hid h1
  have r : okSt s = (decide (0 ≤ s.way ∧ s.way ≤ 4) && decide (1 ≤ s.vsn ∧ s.vsn ≤ 9) && wantOk s && sentOk s && gotOk s.got) := rfl
  have R := Lib.hid r
  clear h1 r h11 h12 h13 h14 i1 i2 i3 i4 i5 i6
  by_cases e1 : s.way < 0
  case pos =>
    have r := Lib.hid (show okSt s = false by rw [R.out, decide_eq_false (by omega)]; rfl)
    go_enter Try.func68, Try.ntmps68
    go_wp2_with (first | ((with_reducible refine gate_box rfl ?_); refine aBx S ?_; clear S; intro g9 w9 z9 S) | ((with_reducible refine gate_load rfl ?_); first | refine aLd S ?_ | refine aPt S ?_ | refine aL1 S ?_))
    go_ret
    exact ⟨by rw [r.out]; rfl, S.frame⟩
  by_cases e2 : 4 < s.way
  case pos =>
    have r := Lib.hid (show okSt s = false by rw [R.out, decide_eq_false (by omega)]; rfl)
    have t1 : decide (s.way < 0) = false := decide_eq_false (by omega)
    go_enter Try.func68, Try.ntmps68
    go_wp2_with (first | ((with_reducible refine gate_box rfl ?_); refine aBx S ?_; clear S; intro g9 w9 z9 S) | ((with_reducible refine gate_load rfl ?_); first | refine aLd S ?_ | refine aPt S ?_ | refine aL1 S ?_))
    go_ret
    exact ⟨by rw [r.out]; rfl, S.frame⟩
  by_cases e3 : s.vsn < 1
  case pos =>
    have r := Lib.hid (show okSt s = false by rw [R.out, decide_eq_false (p := 1 ≤ s.vsn ∧ s.vsn ≤ 9) (by omega)]; simp)
    have t1 : decide (s.way < 0) = false := decide_eq_false (by omega)
    have t2 : decide (4 < s.way) = false := decide_eq_false (by omega)
    go_enter Try.func68, Try.ntmps68
    go_wp2_with (first | ((with_reducible refine gate_box rfl ?_); refine aBx S ?_; clear S; intro g9 w9 z9 S) | ((with_reducible refine gate_load rfl ?_); first | refine aLd S ?_ | refine aPt S ?_ | refine aL1 S ?_))
    go_ret
    exact ⟨by rw [r.out]; rfl, S.frame⟩
  by_cases e4 : 9 < s.vsn
  case pos =>
    have r := Lib.hid (show okSt s = false by rw [R.out, decide_eq_false (p := 1 ≤ s.vsn ∧ s.vsn ≤ 9) (by omega)]; simp)
    have t1 : decide (s.way < 0) = false := decide_eq_false (by omega)
    have t2 : decide (4 < s.way) = false := decide_eq_false (by omega)
    have t3 : decide (s.vsn < 1) = false := decide_eq_false (by omega)
    go_enter Try.func68, Try.ntmps68
    go_wp2_with (first | ((with_reducible refine gate_box rfl ?_); refine aBx S ?_; clear S; intro g9 w9 z9 S) | ((with_reducible refine gate_load rfl ?_); first | refine aLd S ?_ | refine aPt S ?_ | refine aL1 S ?_))
    go_ret
    exact ⟨by rw [r.out]; rfl, S.frame⟩
  have t1 : decide (s.way < 0) = false := decide_eq_false (by omega)
  have t2 : decide (4 < s.way) = false := decide_eq_false (by omega)
  have t3 : decide (s.vsn < 1) = false := decide_eq_false (by omega)
  have t4 : decide (9 < s.vsn) = false := decide_eq_false (by omega)
  have R2 := Lib.hid (show okSt s = (wantOk s && sentOk s && gotOk s.got) by rw [R.out, decide_eq_true (p := 0 ≤ s.way ∧ s.way ≤ 4) (by omega), decide_eq_true (p := 1 ≤ s.vsn ∧ s.vsn ≤ 9) (by omega)]; rfl)
  have fin : ∀ W : World, Fr w W → tSt.rd W s [.int .i64 s.way, .int .i64 s.vsn, .int .i64 s.want, v1, v2, v3, v4] := fun W f => tSt.fr f Q.out
  have FIN := Lib.hid fin
  clear R fin
  by_cases ew : s.way = 4
  · have tw : (s.way == 4) = true := by simpa using ew
    by_cases e5 : s.want = s.vsn + 1
    case neg =>
      have r := Lib.hid (show okSt s = false by rw [R2.out]; simp [wantOk, ew, e5])
      have t5 : (s.want != s.vsn + 1) = true := by simpa using e5
      have t5' : (s.want == s.vsn + 1) = false := by simpa using e5
      clear ew e5
      go_enter Try.func68, Try.ntmps68
      go_wp2_with (first | ((with_reducible refine gate_box rfl ?_); refine aBx S ?_; clear S; intro g9 w9 z9 S) | ((with_reducible refine gate_load rfl ?_); first | refine aLd S ?_ | refine aPt S ?_ | refine aL1 S ?_))
      go_ret
      exact ⟨by rw [r.out]; rfl, S.frame⟩
    have t5 : (s.want != s.vsn + 1) = false := by simpa using e5
    by_cases e6 : s.want ≤ 9
    case neg =>
      have r := Lib.hid (show okSt s = false by rw [R2.out]; simp [wantOk, ew, e6])
      have t6 : decide (9 < s.want) = true := decide_eq_true (by omega)
      clear ew e5
      go_enter Try.func68, Try.ntmps68
      go_wp2_with (first | ((with_reducible refine gate_box rfl ?_); refine aBx S ?_; clear S; intro g9 w9 z9 S) | ((with_reducible refine gate_load rfl ?_); first | refine aLd S ?_ | refine aPt S ?_ | refine aL1 S ?_))
      go_ret
      exact ⟨by rw [r.out]; rfl, S.frame⟩
    have t6 : decide (9 < s.want) = false := decide_eq_false (by omega)
    have R3 := Lib.hid (show okSt s = (sentOk s && gotOk s.got) by rw [R2.out, show wantOk s = true by unfold wantOk; rw [if_pos ew, decide_eq_true e5, decide_eq_true e6]; rfl]; rfl)
    clear ew e5 e6 R2
    cases o1 : sentOk s with
    | false =>
      have O1 := Lib.hid o1
      clear o1
      go_enter Try.func68, Try.ntmps68
      go_wp2_with (first
        | (go_at_call 121; (with_reducible refine (stateSentOk_r _ s _ (FIN.out _ S.frame) O1.out).mono ?_); rintro e w9 ⟨rfl, f9⟩; replace S := S.fr f9; clear f9)
        | ((with_reducible refine gate_box rfl ?_); refine aBx S ?_; clear S; intro g9 w9 z9 S) | ((with_reducible refine gate_load rfl ?_); first | refine aLd S ?_ | refine aPt S ?_ | refine aL1 S ?_))
      go_ret
      exact ⟨by rw [R3.out, O1.out]; rfl, S.frame⟩
    | true =>
      have O1 := Lib.hid o1
      clear o1
      go_enter Try.func68, Try.ntmps68
      go_wp2_with (first
        | (go_at_call 121; (with_reducible refine (stateSentOk_r _ s _ (FIN.out _ S.frame) O1.out).mono ?_); rintro e w9 ⟨rfl, f9⟩; replace S := S.fr f9; clear f9)
        | (go_at_call 122; (with_reducible refine (stateGotOk_c _ s _ (FIN.out _ S.frame)).mono ?_); rintro e w9 ⟨rfl, f9⟩; replace S := S.fr f9; clear f9)
        | ((with_reducible refine gate_box rfl ?_); refine aBx S ?_; clear S; intro g9 w9 z9 S) | ((with_reducible refine gate_load rfl ?_); first | refine aLd S ?_ | refine aPt S ?_ | refine aL1 S ?_))
      go_ret
      exact ⟨by rw [R3.out, O1.out]; simp, S.frame⟩
  · have tw : (s.way == 4) = false := by simpa using ew
    by_cases e5 : s.want = 0
    case neg =>
      have r := Lib.hid (show okSt s = false by rw [R2.out]; simp [wantOk, ew, e5])
      have t5 : (s.want != 0) = true := by simpa using e5
      have t5' : (s.want == 0) = false := by simpa using e5
      clear ew e5
      go_enter Try.func68, Try.ntmps68
      go_wp2_with (first | ((with_reducible refine gate_box rfl ?_); refine aBx S ?_; clear S; intro g9 w9 z9 S) | ((with_reducible refine gate_load rfl ?_); first | refine aLd S ?_ | refine aPt S ?_ | refine aL1 S ?_))
      go_ret
      exact ⟨by rw [r.out]; rfl, S.frame⟩
    have t5 : (s.want != 0) = false := by simpa using e5
    have R3 := Lib.hid (show okSt s = (sentOk s && gotOk s.got) by rw [R2.out]; simp [wantOk, ew, e5])
    clear ew e5 R2
    cases o1 : sentOk s with
    | false =>
      have O1 := Lib.hid o1
      clear o1
      go_enter Try.func68, Try.ntmps68
      go_wp2_with (first
        | (go_at_call 121; (with_reducible refine (stateSentOk_r _ s _ (FIN.out _ S.frame) O1.out).mono ?_); rintro e w9 ⟨rfl, f9⟩; replace S := S.fr f9; clear f9)
        | ((with_reducible refine gate_box rfl ?_); refine aBx S ?_; clear S; intro g9 w9 z9 S) | ((with_reducible refine gate_load rfl ?_); first | refine aLd S ?_ | refine aPt S ?_ | refine aL1 S ?_))
      go_ret
      exact ⟨by rw [R3.out, O1.out]; rfl, S.frame⟩
    | true =>
      have O1 := Lib.hid o1
      clear o1
      go_enter Try.func68, Try.ntmps68
      go_wp2_with (first
        | (go_at_call 121; (with_reducible refine (stateSentOk_r _ s _ (FIN.out _ S.frame) O1.out).mono ?_); rintro e w9 ⟨rfl, f9⟩; replace S := S.fr f9; clear f9)
        | (go_at_call 122; (with_reducible refine (stateGotOk_c _ s _ (FIN.out _ S.frame)).mono ?_); rintro e w9 ⟨rfl, f9⟩; replace S := S.fr f9; clear f9)
        | ((with_reducible refine gate_box rfl ?_); refine aBx S ?_; clear S; intro g9 w9 z9 S) | ((with_reducible refine gate_load rfl ?_); first | refine aLd S ?_ | refine aPt S ?_ | refine aL1 S ?_))
      go_ret
      exact ⟨by rw [R3.out, O1.out]; simp, S.frame⟩
end Go.Proofs.Ytapdcgjccckjeaa
namespace Go.Proofs.Ytapdcgjccckjeaa
set_option maxRecDepth 100000
set_option linter.unusedVariables false
set_option linter.unusedSimpArgs false
open Go.RowKit
theorem l6In_e (w : World) (n lo hi : Int) {r : Bool} (h : decide (lo ≤ n ∧ n ≤ hi) = r) : Calls Try.prog 61 #[.int .i64 n, .int .i64 lo, .int .i64 hi] w fun e w' => e = .returned (.bool r) ∧ w = w' := h ▸ l6In_c w n lo hi
set_option maxRecDepth 100000 in
set_option maxHeartbeats 6400000 in
theorem sStateOk_c (w : World) (s : St) (c0 : List Value) (h1 : tSt.rd w s c0) : Calls Try.prog 88 #[.agg c0.toArray] w (Ret (.bool (okSt s)) w) := by
  obtain ⟨v1, v2, v3, v4, rfl, h11, h12, h13, h14, h15⟩ := h1
  obtain ⟨A1, c1, rfl⟩ := h11.val
  obtain ⟨A2, c2, rfl⟩ := h12.val
  obtain ⟨A3, c3, rfl⟩ := h13.val
  obtain ⟨A4, c4, rfl⟩ := h14.val
  have m1 := h11.le
  have m2 := h12.le
  have m3 := h13.le
  have m4 := h14.le
  have S := Sep.start w
  clear h15
  cases a1 : decide (0 ≤ s.way ∧ s.way ≤ 4) with
  | false =>
    have r := Lib.hid (show okSt s = false by simp only [okSt, a1, Bool.false_and])
    have W1 := Lib.hid a1
    clear a1
    go_enter Try.func88, Try.ntmps88
    go_wp2_with (first
      | (go_at_call 61; (with_reducible refine (l6In_e _ s.way 0 4 W1.out).mono ?_); rintro e w9 ⟨rfl, rfl⟩)
      | ((with_reducible refine gate_box rfl ?_); refine aBx S ?_; clear S; intro g9 w9 z9 S) | ((with_reducible refine gate_load rfl ?_); first | refine aLd S ?_ | refine aPt S ?_ | refine aL1 S ?_))
    go_ret
    exact ⟨by rw [r.out]; rfl, S.frame⟩
  | true =>
  cases a2 : decide (1 ≤ s.vsn ∧ s.vsn ≤ 9) with
  | false =>
    have r := Lib.hid (show okSt s = false by simp only [okSt, a2, Bool.false_and, Bool.and_false])
    have W1 := Lib.hid a1
    have W2 := Lib.hid a2
    clear a1 a2
    go_enter Try.func88, Try.ntmps88
    go_wp2_with (first
      | (go_at_call 61; (with_reducible refine (l6In_e _ s.way 0 4 W1.out).mono ?_); rintro e w9 ⟨rfl, rfl⟩)
      | (go_at_call 61; (with_reducible refine (l6In_e _ s.vsn 1 9 W2.out).mono ?_); rintro e w9 ⟨rfl, rfl⟩)
      | ((with_reducible refine gate_box rfl ?_); refine aBx S ?_; clear S; intro g9 w9 z9 S) | ((with_reducible refine gate_load rfl ?_); first | refine aLd S ?_ | refine aPt S ?_ | refine aL1 S ?_))
    go_ret
    exact ⟨by rw [r.out]; rfl, S.frame⟩
  | true =>
  have R0 := Lib.hid (show okSt s = (wantOk s && sentOk s && gotOk s.got) by simp only [okSt, a1, a2, Bool.true_and])
  have W1 := Lib.hid a1
  have W2 := Lib.hid a2
  clear a1 a2
  by_cases e1 : s.sent.length ≤ 8
  case neg =>
    have r := Lib.hid (show okSt s = false by rw [R0.out]; simp [sentOk, e1])
    have t1 : decide ((8 : Int) < (s.sent.length : Int)) = true := decide_eq_true (by omega)
    clear e1
    go_enter Try.func88, Try.ntmps88
    go_wp2_with (first
      | (go_at_call 61; (with_reducible refine (l6In_e _ s.way 0 4 W1.out).mono ?_); rintro e w9 ⟨rfl, rfl⟩)
      | (go_at_call 61; (with_reducible refine (l6In_e _ s.vsn 1 9 W2.out).mono ?_); rintro e w9 ⟨rfl, rfl⟩)
      | ((with_reducible refine gate_box rfl ?_); refine aBx S ?_; clear S; intro g9 w9 z9 S) | ((with_reducible refine gate_load rfl ?_); first | refine aLd S ?_ | refine aPt S ?_ | refine aL1 S ?_))
    go_ret
    exact ⟨by rw [r.out]; rfl, S.frame⟩
  have t1 : decide ((8 : Int) < (s.sent.length : Int)) = false := decide_eq_false (by omega)
  by_cases e2 : s.live.length = s.sent.length
  case neg =>
    have r := Lib.hid (show okSt s = false by rw [R0.out]; simp [sentOk, e2])
    have t2 : ((s.live.length : Int) != (s.sent.length : Int)) = true := by simp; omega
    clear e2
    go_enter Try.func88, Try.ntmps88
    go_wp2_with (first
      | (go_at_call 61; (with_reducible refine (l6In_e _ s.way 0 4 W1.out).mono ?_); rintro e w9 ⟨rfl, rfl⟩)
      | (go_at_call 61; (with_reducible refine (l6In_e _ s.vsn 1 9 W2.out).mono ?_); rintro e w9 ⟨rfl, rfl⟩)
      | ((with_reducible refine gate_box rfl ?_); refine aBx S ?_; clear S; intro g9 w9 z9 S) | ((with_reducible refine gate_load rfl ?_); first | refine aLd S ?_ | refine aPt S ?_ | refine aL1 S ?_))
    go_ret
    exact ⟨by rw [r.out]; rfl, S.frame⟩
  by_cases e3 : s.back.length = s.sent.length
  case neg =>
    have r := Lib.hid (show okSt s = false by rw [R0.out]; simp [sentOk, e3])
    have t3 : ((s.back.length : Int) != (s.sent.length : Int)) = true := by simp; omega
    rw [e2]
    have E2 := Lib.hid e2
    clear e2
    clear e3
    go_enter Try.func88, Try.ntmps88
    go_wp2_with (first
      | (go_at_call 61; (with_reducible refine (l6In_e _ s.way 0 4 W1.out).mono ?_); rintro e w9 ⟨rfl, rfl⟩)
      | (go_at_call 61; (with_reducible refine (l6In_e _ s.vsn 1 9 W2.out).mono ?_); rintro e w9 ⟨rfl, rfl⟩)
      | ((with_reducible refine gate_box rfl ?_); refine aBx S ?_; clear S; intro g9 w9 z9 S) | ((with_reducible refine gate_load rfl ?_); first | refine aLd S ?_ | refine aPt S ?_ | refine aL1 S ?_))
    go_ret
    exact ⟨by rw [r.out]; rfl, S.frame⟩
  by_cases e4 : s.got.length = 8
  case neg =>
    have r := Lib.hid (show okSt s = false by rw [R0.out]; simp [gotOk, e4])
    have t4 : ((s.got.length : Int) != 8) = true := by simp; omega
    rw [e2, e3]
    have E2 := Lib.hid e2
    have E3 := Lib.hid e3
    clear e2 e3
    clear e4
    go_enter Try.func88, Try.ntmps88
    go_wp2_with (first
      | (go_at_call 61; (with_reducible refine (l6In_e _ s.way 0 4 W1.out).mono ?_); rintro e w9 ⟨rfl, rfl⟩)
      | (go_at_call 61; (with_reducible refine (l6In_e _ s.vsn 1 9 W2.out).mono ?_); rintro e w9 ⟨rfl, rfl⟩)
      | ((with_reducible refine gate_box rfl ?_); refine aBx S ?_; clear S; intro g9 w9 z9 S) | ((with_reducible refine gate_load rfl ?_); first | refine aLd S ?_ | refine aPt S ?_ | refine aL1 S ?_))
    go_ret
    exact ⟨by rw [r.out]; rfl, S.frame⟩
  obtain ⟨n, hn⟩ : ∃ n, s.sent.length = n := ⟨_, rfl⟩
  rw [hn] at e1 e2 e3 t1 m1 ⊢
  rw [e2, e3, e4]
  have E1 := Lib.hid hn
  have E2 := Lib.hid e2
  have E3 := Lib.hid e3
  have E4 := Lib.hid e4
  have SO := Lib.hid (show sentOk s = (List.range n).all (pksOk s) by rw [← hn]; simp only [sentOk, hn, e2, e3, decide_eq_true e1, beq_self_eq_true, Bool.true_and])
  have GO := Lib.hid (show gotOk s.got = s.got.all rng2 by simp only [gotOk, e4, beq_self_eq_true, Bool.true_and])
  clear hn e2 e3 e4 m1 m2 m3 m4
  go_enter Try.func88, Try.ntmps88
  go_wp2_with (first
      | ((with_reducible refine gate_dst (N := 1) rfl ?_); refine aBx S ?_; clear S; intro gS w9 z9 S)
      | (go_at_call 61; (with_reducible refine (l6In_e _ s.way 0 4 W1.out).mono ?_); rintro e w9 ⟨rfl, rfl⟩)
      | (go_at_call 61; (with_reducible refine (l6In_e _ s.vsn 1 9 W2.out).mono ?_); rintro e w9 ⟨rfl, rfl⟩)
      | ((with_reducible refine gate_box rfl ?_); refine aBx S ?_; clear S; intro g9 w9 z9 S) | ((with_reducible refine gate_load rfl ?_); first | refine aLd S ?_ | refine aPt S ?_ | refine aL1 S ?_))
  go_loopw [4] (fun i wr => ∃ k : Nat, k ≤ n ∧ i = .int .i64 k ∧ (List.range k).all (pksOk s) = true ∧ Sep [] w [aBox gS 30 7 [.int .i64 s.way, .int .i64 s.vsn, .int .i64 s.want, .slice A1 n c1, .slice A2 n c2, .slice A3 n c3, .slice A4 8 c4]] wr) (fun i _ => n - (intOf i).toNat)
  case atStart => exact ⟨0, Nat.zero_le _, rfl, rfl, S⟩
  case round =>
    clear S
    obtain ⟨k, hk, rfl, hall, S⟩ := hrel
    have HA := Lib.hid hall
    clear hall
    by_cases hlt : k < n
    · obtain ⟨ad1, rfl, g1⟩ := pkAt_of_row h11 k (by rw [E1.out]; exact hlt)
      obtain ⟨ad2, rfl, g2⟩ := row_bool_at h12 k (by rw [E2.out]; exact hlt)
      obtain ⟨ad3, rfl, g3⟩ := row_bool_at h13 k (by rw [E3.out]; exact hlt)
      have hat := pksOk_at (s := s) (k := k) (by rw [E1.out]; exact hlt) (by rw [E2.out]; exact hlt) (by rw [E3.out]; exact hlt)
      have hin : k < s.sent.length := by rw [E1.out]; exact hlt
      generalize s.sent[k]'(by rw [E1.out]; exact hlt) = x at *
      generalize s.live[k]'(by rw [E2.out]; exact hlt) = l at *
      generalize s.back[k]'(by rw [E3.out]; exact hlt) = b at *
      have HAT := Lib.hid hat
      have HIN := Lib.hid hin
      have G1 := Lib.hid g1
      have G2 := Lib.hid g2
      have G3 := Lib.hid g3
      have p1 : (k : Int) < (n : Int) := by omega
      have pw : IntKind.i64.wrap ((k : Int) + 1) = (k : Int) + 1 := IntWalk.i64_in _ (by omega)
      have H2 := Lib.hid (show w.cell? (ad2.add (k * 1)) = some (.bool l) by rw [Nat.mul_one]; exact g2)
      have H3 := Lib.hid (show w.cell? (ad3.add (k * 1)) = some (.bool b) by rw [Nat.mul_one]; exact g3)
      clear hat hin g1 g2 g3
      cases o1 : okPk x with
      | false =>
        have O1 := Lib.hid o1
        have R := Lib.hid (show okSt s = false by rw [R0.out, sentOk_bad (s := s) (k := k) HIN.out (by rw [HAT.out]; simp [pkAtOk, o1])]; simp)
        clear o1
        go_wp2
        have S0 := (Sep.only1 (a1 := aBox gS _ _ _) S delA)
        refine wp_region_noPanic ?_
        refine wp_region_held_drew (S := Sep _ _ _) (by kernel_rfl) S0.drew (fun _ => ?_)
        replace S := S.drew
        clear S0
        refine tk 0 ?_
        (try simp only [Act.put, List.setIfInBounds_toArray, List.set_cons_zero, List.set_cons_succ])
        refine tk 1 ?_
        (try simp only [Act.put, List.setIfInBounds_toArray, List.set_cons_zero, List.set_cons_succ])
        refine tk 2 ?_
        (try simp only [Act.put, List.setIfInBounds_toArray, List.set_cons_zero, List.set_cons_succ])
        refine tk 3 ?_
        (try simp only [Act.put, List.setIfInBounds_toArray, List.set_cons_zero, List.set_cons_succ])
        refine tk 4 ?_ (hy := by first | (refine' yields_pkld (p := x) ?ta 88 _ ?tb ?tc ?td _ ?te ?tf ?tg; (case ta => rfl); (case tb => rfl); (case tc => rfl); (case td => exact fun W hW => G1.out.fr hW.frame); (case te => exact Try.underlying88); (case tf => rfl); (case tg => exact ts88)))
        (try simp only [Act.put, List.setIfInBounds_toArray, List.set_cons_zero, List.set_cons_succ])
        refine rdy1 5 (fun K hK => ?_)
        go_simp; (skip; go_at_call 116; (with_reducible refine (sPacketOk_l _ x).mono ?_); rintro e w9 ⟨rfl, f9⟩; rw [O1.out]; replace S := S.fr f9; clear f9)
        (first | refine hK.out _ _ (S.sub subA) (fun _ => ?_) | (go_wp2_with fail; refine hK.out _ _ (S.sub subA) (fun _ => ?_)))
        clear hK K
        (try simp only [Act.put, List.setIfInBounds_toArray, List.set_cons_zero, List.set_cons_succ])
        refine tk 6 ?_
        (try simp only [Act.put, List.setIfInBounds_toArray, List.set_cons_zero, List.set_cons_succ])
        refine tk 7 ?_
        (try simp only [Act.put, List.setIfInBounds_toArray, List.set_cons_zero, List.set_cons_succ])
        refine tk 8 ?_
        (try simp only [Act.put, List.setIfInBounds_toArray, List.set_cons_zero, List.set_cons_succ])
        refine tk 9 ?_
        (try simp only [Act.put, List.setIfInBounds_toArray, List.set_cons_zero, List.set_cons_succ])
        refine tk 10 ?_
        (try simp only [Act.put, List.setIfInBounds_toArray, List.set_cons_zero, List.set_cons_succ])
        refine tk 11 ?_
        (try simp only [Act.put, List.setIfInBounds_toArray, List.set_cons_zero, List.set_cons_succ])
        refine tk 12 ?_
        (try simp only [Act.put, List.setIfInBounds_toArray, List.set_cons_zero, List.set_cons_succ])
        refine tk 13 ?_ (hy := by first | (refine' yields_cell (v := .int .i64 x.seq) ?ta 3 _ ?tb ?tc ?td _ ?te ?tf; (case ta => rfl); (case tb => rfl); (case tc => rfl); (case td => exact fun W hW => (G1.out.fr hW.frame).at_ 0 _ rfl); (case te => exact Try.underlying3); (case tf => rfl)) | (refine Or.inr ⟨by rfl, ?_⟩; rfl))
        (try simp only [Act.put, List.setIfInBounds_toArray, List.set_cons_zero, List.set_cons_succ])
        refine tk 14 ?_
        (try simp only [Act.put, List.setIfInBounds_toArray, List.set_cons_zero, List.set_cons_succ])
        refine tk 15 ?_
        (try simp only [Act.put, List.setIfInBounds_toArray, List.set_cons_zero, List.set_cons_succ])
        refine tk 16 ?_
        (try simp only [Act.put, List.setIfInBounds_toArray, List.set_cons_zero, List.set_cons_succ])
        refine tk 17 ?_
        (try simp only [Act.put, List.setIfInBounds_toArray, List.set_cons_zero, List.set_cons_succ])
        refine tk 18 ?_
        (try simp only [Act.put, List.setIfInBounds_toArray, List.set_cons_zero, List.set_cons_succ])
        refine tk 19 ?_
        (try simp only [Act.put, List.setIfInBounds_toArray, List.set_cons_zero, List.set_cons_succ])
        refine tk 20 ?_
        (try simp only [Act.put, List.setIfInBounds_toArray, List.set_cons_zero, List.set_cons_succ])
        refine tk 21 ?_
        (try simp only [Act.put, List.setIfInBounds_toArray, List.set_cons_zero, List.set_cons_succ])
        refine tk 22 ?_
        (try simp only [Act.put, List.setIfInBounds_toArray, List.set_cons_zero, List.set_cons_succ])
        refine tk 23 ?_ (hy := by first | (refine' yields_cell (v := .bool true) ?ta 4 _ ?tb ?tc ?td _ ?te ?tf; (case ta => rfl); (case tb => rfl); (case tc => rfl); (case td => exact fun W hW => hW.frame.cell G2.out); (case te => exact Try.underlying4); (case tf => rfl)) | (refine' yields_cell (v := .bool false) ?ta 4 _ ?tb ?tc ?td _ ?te ?tf; (case ta => rfl); (case tb => rfl); (case tc => rfl); (case td => exact fun W hW => hW.frame.cell G2.out); (case te => exact Try.underlying4); (case tf => rfl)) | (refine' yields_cell (v := .bool l) ?ta 4 _ ?tb ?tc ?td _ ?te ?tf; (case ta => rfl); (case tb => rfl); (case tc => rfl); (case td => exact fun W hW => hW.frame.cell G2.out); (case te => exact Try.underlying4); (case tf => rfl)) | (refine Or.inr ⟨by rfl, ?_⟩; rfl))
        (try simp only [Act.put, List.setIfInBounds_toArray, List.set_cons_zero, List.set_cons_succ])
        refine tk 24 ?_
        (try simp only [Act.put, List.setIfInBounds_toArray, List.set_cons_zero, List.set_cons_succ])
        refine tk 25 ?_
        (try simp only [Act.put, List.setIfInBounds_toArray, List.set_cons_zero, List.set_cons_succ])
        refine tk 26 ?_
        (try simp only [Act.put, List.setIfInBounds_toArray, List.set_cons_zero, List.set_cons_succ])
        refine tk 27 ?_
        (try simp only [Act.put, List.setIfInBounds_toArray, List.set_cons_zero, List.set_cons_succ])
        refine tk 28 ?_
        (try simp only [Act.put, List.setIfInBounds_toArray, List.set_cons_zero, List.set_cons_succ])
        refine tk 29 ?_ (hy := by first | (refine' yields_cell (v := .bool true) ?ta 4 _ ?tb ?tc ?td _ ?te ?tf; (case ta => rfl); (case tb => rfl); (case tc => rfl); (case td => exact fun W hW => hW.frame.cell G3.out); (case te => exact Try.underlying4); (case tf => rfl)) | (refine' yields_cell (v := .bool false) ?ta 4 _ ?tb ?tc ?td _ ?te ?tf; (case ta => rfl); (case tb => rfl); (case tc => rfl); (case td => exact fun W hW => hW.frame.cell G3.out); (case te => exact Try.underlying4); (case tf => rfl)) | (refine' yields_cell (v := .bool b) ?ta 4 _ ?tb ?tc ?td _ ?te ?tf; (case ta => rfl); (case tb => rfl); (case tc => rfl); (case td => exact fun W hW => hW.frame.cell G3.out); (case te => exact Try.underlying4); (case tf => rfl)) | (refine Or.inr ⟨by rfl, ?_⟩; rfl))
        (try simp only [Act.put, List.setIfInBounds_toArray, List.set_cons_zero, List.set_cons_succ])
        refine tk 30 ?_
        (try simp only [Act.put, List.setIfInBounds_toArray, List.set_cons_zero, List.set_cons_succ])
        refine tk 31 ?_
        (try simp only [Act.put, List.setIfInBounds_toArray, List.set_cons_zero, List.set_cons_succ])
        refine tk 32 ?_
        (try simp only [Act.put, List.setIfInBounds_toArray, List.set_cons_zero, List.set_cons_succ])
        refine tk 33 ?_
        (try simp only [Act.put, List.setIfInBounds_toArray, List.set_cons_zero, List.set_cons_succ])
        refine tk 34 ?_
        (try simp only [Act.put, List.setIfInBounds_toArray, List.set_cons_zero, List.set_cons_succ])
        refine tk 35 ?_
        (try simp only [Act.put, List.setIfInBounds_toArray, List.set_cons_zero, List.set_cons_succ])
        refine tk 36 ?_
        (try simp only [Act.put, List.setIfInBounds_toArray, List.set_cons_zero, List.set_cons_succ])
        refine tk 37 ?_
        (try simp only [Act.put, List.setIfInBounds_toArray, List.set_cons_zero, List.set_cons_succ])
        refine tk 38 ?_ (hy := by first | (refine' yields_cell (v := .int .i64 x.ver) ?ta 3 _ ?tb ?tc ?td _ ?te ?tf; (case ta => rfl); (case tb => rfl); (case tc => rfl); (case td => exact fun W hW => (G1.out.fr hW.frame).at_ 6 _ rfl); (case te => exact Try.underlying3); (case tf => rfl)) | (refine Or.inr ⟨by rfl, ?_⟩; rfl))
        (try simp only [Act.put, List.setIfInBounds_toArray, List.set_cons_zero, List.set_cons_succ])
        refine tk 39 ?_
        (try simp only [Act.put, List.setIfInBounds_toArray, List.set_cons_zero, List.set_cons_succ])
        refine tk 40 ?_
        (try simp only [Act.put, List.setIfInBounds_toArray, List.set_cons_zero, List.set_cons_succ])
        refine tk 41 ?_
        (try simp only [Act.put, List.setIfInBounds_toArray, List.set_cons_zero, List.set_cons_succ])
        refine tk 42 ?_
        (try simp only [Act.put, List.setIfInBounds_toArray, List.set_cons_zero, List.set_cons_succ])
        refine wpAnyH_done (by kernel_rfl) ?_ _
        refine NoPanic.normal ?_
        go_wp2
        go_ret
        exact ⟨by rw [R.out]; rfl, S.frame⟩
      | true =>
        have O1 := Lib.hid o1
        clear o1
        by_cases hq : x.seq = (k : Int) + 1
        case neg =>
          have tq : (x.seq != (k : Int) + 1) = true := by simpa using hq
          have R := Lib.hid (show okSt s = false by rw [R0.out, sentOk_bad (s := s) (k := k) HIN.out (by rw [HAT.out]; simp [pkAtOk, O1.out, hq])]; simp)
          clear hq
          go_wp2
          have S0 := (Sep.only1 (a1 := aBox gS _ _ _) S delA)
          refine wp_region_noPanic ?_
          refine wp_region_held_drew (S := Sep _ _ _) (by kernel_rfl) S0.drew (fun _ => ?_)
          replace S := S.drew
          clear S0
          refine tk 0 ?_
          (try simp only [Act.put, List.setIfInBounds_toArray, List.set_cons_zero, List.set_cons_succ])
          refine tk 1 ?_
          (try simp only [Act.put, List.setIfInBounds_toArray, List.set_cons_zero, List.set_cons_succ])
          refine tk 2 ?_
          (try simp only [Act.put, List.setIfInBounds_toArray, List.set_cons_zero, List.set_cons_succ])
          refine tk 3 ?_
          (try simp only [Act.put, List.setIfInBounds_toArray, List.set_cons_zero, List.set_cons_succ])
          refine tk 4 ?_ (hy := by first | (refine' yields_pkld (p := x) ?ta 88 _ ?tb ?tc ?td _ ?te ?tf ?tg; (case ta => rfl); (case tb => rfl); (case tc => rfl); (case td => exact fun W hW => G1.out.fr hW.frame); (case te => exact Try.underlying88); (case tf => rfl); (case tg => exact ts88)))
          (try simp only [Act.put, List.setIfInBounds_toArray, List.set_cons_zero, List.set_cons_succ])
          refine rdy1 5 (fun K hK => ?_)
          go_simp; (skip; go_at_call 116; (with_reducible refine (sPacketOk_l _ x).mono ?_); rintro e w9 ⟨rfl, f9⟩; rw [O1.out]; replace S := S.fr f9; clear f9)
          (first | refine hK.out _ _ (S.sub subA) (fun _ => ?_) | (go_wp2_with fail; refine hK.out _ _ (S.sub subA) (fun _ => ?_)))
          clear hK K
          (try simp only [Act.put, List.setIfInBounds_toArray, List.set_cons_zero, List.set_cons_succ])
          refine tk 6 ?_
          (try simp only [Act.put, List.setIfInBounds_toArray, List.set_cons_zero, List.set_cons_succ])
          refine tk 7 ?_
          (try simp only [Act.put, List.setIfInBounds_toArray, List.set_cons_zero, List.set_cons_succ])
          refine tk 8 ?_
          (try simp only [Act.put, List.setIfInBounds_toArray, List.set_cons_zero, List.set_cons_succ])
          refine tk 9 ?_
          (try simp only [Act.put, List.setIfInBounds_toArray, List.set_cons_zero, List.set_cons_succ])
          refine tk 10 ?_
          (try simp only [Act.put, List.setIfInBounds_toArray, List.set_cons_zero, List.set_cons_succ])
          refine tk 11 ?_
          (try simp only [Act.put, List.setIfInBounds_toArray, List.set_cons_zero, List.set_cons_succ])
          refine tk 12 ?_
          (try simp only [Act.put, List.setIfInBounds_toArray, List.set_cons_zero, List.set_cons_succ])
          refine tk 13 ?_ (hy := by first | (refine' yields_cell (v := .int .i64 x.seq) ?ta 3 _ ?tb ?tc ?td _ ?te ?tf; (case ta => rfl); (case tb => rfl); (case tc => rfl); (case td => exact fun W hW => (G1.out.fr hW.frame).at_ 0 _ rfl); (case te => exact Try.underlying3); (case tf => rfl)) | (refine Or.inr ⟨by rfl, ?_⟩; rfl))
          (try simp only [Act.put, List.setIfInBounds_toArray, List.set_cons_zero, List.set_cons_succ])
          refine tk 14 ?_
          (try simp only [Act.put, List.setIfInBounds_toArray, List.set_cons_zero, List.set_cons_succ])
          refine tk 15 ?_
          (try simp only [Act.put, List.setIfInBounds_toArray, List.set_cons_zero, List.set_cons_succ])
          refine tk 16 ?_
          (try simp only [Act.put, List.setIfInBounds_toArray, List.set_cons_zero, List.set_cons_succ])
          refine tk 17 ?_
          (try simp only [Act.put, List.setIfInBounds_toArray, List.set_cons_zero, List.set_cons_succ])
          refine tk 18 ?_
          (try simp only [Act.put, List.setIfInBounds_toArray, List.set_cons_zero, List.set_cons_succ])
          refine tk 19 ?_
          (try simp only [Act.put, List.setIfInBounds_toArray, List.set_cons_zero, List.set_cons_succ])
          refine tk 20 ?_
          (try simp only [Act.put, List.setIfInBounds_toArray, List.set_cons_zero, List.set_cons_succ])
          refine tk 21 ?_
          (try simp only [Act.put, List.setIfInBounds_toArray, List.set_cons_zero, List.set_cons_succ])
          refine tk 22 ?_
          (try simp only [Act.put, List.setIfInBounds_toArray, List.set_cons_zero, List.set_cons_succ])
          refine tk 23 ?_ (hy := by first | (refine' yields_cell (v := .bool true) ?ta 4 _ ?tb ?tc ?td _ ?te ?tf; (case ta => rfl); (case tb => rfl); (case tc => rfl); (case td => exact fun W hW => hW.frame.cell G2.out); (case te => exact Try.underlying4); (case tf => rfl)) | (refine' yields_cell (v := .bool false) ?ta 4 _ ?tb ?tc ?td _ ?te ?tf; (case ta => rfl); (case tb => rfl); (case tc => rfl); (case td => exact fun W hW => hW.frame.cell G2.out); (case te => exact Try.underlying4); (case tf => rfl)) | (refine' yields_cell (v := .bool l) ?ta 4 _ ?tb ?tc ?td _ ?te ?tf; (case ta => rfl); (case tb => rfl); (case tc => rfl); (case td => exact fun W hW => hW.frame.cell G2.out); (case te => exact Try.underlying4); (case tf => rfl)) | (refine Or.inr ⟨by rfl, ?_⟩; rfl))
          (try simp only [Act.put, List.setIfInBounds_toArray, List.set_cons_zero, List.set_cons_succ])
          refine tk 24 ?_
          (try simp only [Act.put, List.setIfInBounds_toArray, List.set_cons_zero, List.set_cons_succ])
          refine tk 25 ?_
          (try simp only [Act.put, List.setIfInBounds_toArray, List.set_cons_zero, List.set_cons_succ])
          refine tk 26 ?_
          (try simp only [Act.put, List.setIfInBounds_toArray, List.set_cons_zero, List.set_cons_succ])
          refine tk 27 ?_
          (try simp only [Act.put, List.setIfInBounds_toArray, List.set_cons_zero, List.set_cons_succ])
          refine tk 28 ?_
          (try simp only [Act.put, List.setIfInBounds_toArray, List.set_cons_zero, List.set_cons_succ])
          refine tk 29 ?_ (hy := by first | (refine' yields_cell (v := .bool true) ?ta 4 _ ?tb ?tc ?td _ ?te ?tf; (case ta => rfl); (case tb => rfl); (case tc => rfl); (case td => exact fun W hW => hW.frame.cell G3.out); (case te => exact Try.underlying4); (case tf => rfl)) | (refine' yields_cell (v := .bool false) ?ta 4 _ ?tb ?tc ?td _ ?te ?tf; (case ta => rfl); (case tb => rfl); (case tc => rfl); (case td => exact fun W hW => hW.frame.cell G3.out); (case te => exact Try.underlying4); (case tf => rfl)) | (refine' yields_cell (v := .bool b) ?ta 4 _ ?tb ?tc ?td _ ?te ?tf; (case ta => rfl); (case tb => rfl); (case tc => rfl); (case td => exact fun W hW => hW.frame.cell G3.out); (case te => exact Try.underlying4); (case tf => rfl)) | (refine Or.inr ⟨by rfl, ?_⟩; rfl))
          (try simp only [Act.put, List.setIfInBounds_toArray, List.set_cons_zero, List.set_cons_succ])
          refine tk 30 ?_
          (try simp only [Act.put, List.setIfInBounds_toArray, List.set_cons_zero, List.set_cons_succ])
          refine tk 31 ?_
          (try simp only [Act.put, List.setIfInBounds_toArray, List.set_cons_zero, List.set_cons_succ])
          refine tk 32 ?_
          (try simp only [Act.put, List.setIfInBounds_toArray, List.set_cons_zero, List.set_cons_succ])
          refine tk 33 ?_
          (try simp only [Act.put, List.setIfInBounds_toArray, List.set_cons_zero, List.set_cons_succ])
          refine tk 34 ?_
          (try simp only [Act.put, List.setIfInBounds_toArray, List.set_cons_zero, List.set_cons_succ])
          refine tk 35 ?_
          (try simp only [Act.put, List.setIfInBounds_toArray, List.set_cons_zero, List.set_cons_succ])
          refine tk 36 ?_
          (try simp only [Act.put, List.setIfInBounds_toArray, List.set_cons_zero, List.set_cons_succ])
          refine tk 37 ?_
          (try simp only [Act.put, List.setIfInBounds_toArray, List.set_cons_zero, List.set_cons_succ])
          refine tk 38 ?_ (hy := by first | (refine' yields_cell (v := .int .i64 x.ver) ?ta 3 _ ?tb ?tc ?td _ ?te ?tf; (case ta => rfl); (case tb => rfl); (case tc => rfl); (case td => exact fun W hW => (G1.out.fr hW.frame).at_ 6 _ rfl); (case te => exact Try.underlying3); (case tf => rfl)) | (refine Or.inr ⟨by rfl, ?_⟩; rfl))
          (try simp only [Act.put, List.setIfInBounds_toArray, List.set_cons_zero, List.set_cons_succ])
          refine tk 39 ?_
          (try simp only [Act.put, List.setIfInBounds_toArray, List.set_cons_zero, List.set_cons_succ])
          refine tk 40 ?_
          (try simp only [Act.put, List.setIfInBounds_toArray, List.set_cons_zero, List.set_cons_succ])
          refine tk 41 ?_
          (try simp only [Act.put, List.setIfInBounds_toArray, List.set_cons_zero, List.set_cons_succ])
          refine tk 42 ?_
          (try simp only [Act.put, List.setIfInBounds_toArray, List.set_cons_zero, List.set_cons_succ])
          refine wpAnyH_done (by kernel_rfl) ?_ _
          refine NoPanic.normal ?_
          go_wp2
          go_ret
          exact ⟨by rw [R.out]; rfl, S.frame⟩
        have tq : (x.seq != (k : Int) + 1) = false := by simpa using hq
        cases hlb : (l && b) with
        | true =>
          simp only [Bool.and_eq_true] at hlb
          obtain ⟨rfl, rfl⟩ := hlb
          have R := Lib.hid (show okSt s = false by rw [R0.out, sentOk_bad (s := s) (k := k) HIN.out (by rw [HAT.out]; simp [pkAtOk, O1.out, hq])]; simp)
          clear hq
          go_wp2
          have S0 := (Sep.only1 (a1 := aBox gS _ _ _) S delA)
          refine wp_region_noPanic ?_
          refine wp_region_held_drew (S := Sep _ _ _) (by kernel_rfl) S0.drew (fun _ => ?_)
          replace S := S.drew
          clear S0
          refine tk 0 ?_
          (try simp only [Act.put, List.setIfInBounds_toArray, List.set_cons_zero, List.set_cons_succ])
          refine tk 1 ?_
          (try simp only [Act.put, List.setIfInBounds_toArray, List.set_cons_zero, List.set_cons_succ])
          refine tk 2 ?_
          (try simp only [Act.put, List.setIfInBounds_toArray, List.set_cons_zero, List.set_cons_succ])
          refine tk 3 ?_
          (try simp only [Act.put, List.setIfInBounds_toArray, List.set_cons_zero, List.set_cons_succ])
          refine tk 4 ?_ (hy := by first | (refine' yields_pkld (p := x) ?ta 88 _ ?tb ?tc ?td _ ?te ?tf ?tg; (case ta => rfl); (case tb => rfl); (case tc => rfl); (case td => exact fun W hW => G1.out.fr hW.frame); (case te => exact Try.underlying88); (case tf => rfl); (case tg => exact ts88)))
          (try simp only [Act.put, List.setIfInBounds_toArray, List.set_cons_zero, List.set_cons_succ])
          refine rdy1 5 (fun K hK => ?_)
          go_simp; (skip; go_at_call 116; (with_reducible refine (sPacketOk_l _ x).mono ?_); rintro e w9 ⟨rfl, f9⟩; rw [O1.out]; replace S := S.fr f9; clear f9)
          (first | refine hK.out _ _ (S.sub subA) (fun _ => ?_) | (go_wp2_with fail; refine hK.out _ _ (S.sub subA) (fun _ => ?_)))
          clear hK K
          (try simp only [Act.put, List.setIfInBounds_toArray, List.set_cons_zero, List.set_cons_succ])
          refine tk 6 ?_
          (try simp only [Act.put, List.setIfInBounds_toArray, List.set_cons_zero, List.set_cons_succ])
          refine tk 7 ?_
          (try simp only [Act.put, List.setIfInBounds_toArray, List.set_cons_zero, List.set_cons_succ])
          refine tk 8 ?_
          (try simp only [Act.put, List.setIfInBounds_toArray, List.set_cons_zero, List.set_cons_succ])
          refine tk 9 ?_
          (try simp only [Act.put, List.setIfInBounds_toArray, List.set_cons_zero, List.set_cons_succ])
          refine tk 10 ?_
          (try simp only [Act.put, List.setIfInBounds_toArray, List.set_cons_zero, List.set_cons_succ])
          refine tk 11 ?_
          (try simp only [Act.put, List.setIfInBounds_toArray, List.set_cons_zero, List.set_cons_succ])
          refine tk 12 ?_
          (try simp only [Act.put, List.setIfInBounds_toArray, List.set_cons_zero, List.set_cons_succ])
          refine tk 13 ?_ (hy := by first | (refine' yields_cell (v := .int .i64 x.seq) ?ta 3 _ ?tb ?tc ?td _ ?te ?tf; (case ta => rfl); (case tb => rfl); (case tc => rfl); (case td => exact fun W hW => (G1.out.fr hW.frame).at_ 0 _ rfl); (case te => exact Try.underlying3); (case tf => rfl)) | (refine Or.inr ⟨by rfl, ?_⟩; rfl))
          (try simp only [Act.put, List.setIfInBounds_toArray, List.set_cons_zero, List.set_cons_succ])
          refine tk 14 ?_
          (try simp only [Act.put, List.setIfInBounds_toArray, List.set_cons_zero, List.set_cons_succ])
          refine tk 15 ?_
          (try simp only [Act.put, List.setIfInBounds_toArray, List.set_cons_zero, List.set_cons_succ])
          refine tk 16 ?_
          (try simp only [Act.put, List.setIfInBounds_toArray, List.set_cons_zero, List.set_cons_succ])
          refine tk 17 ?_
          (try simp only [Act.put, List.setIfInBounds_toArray, List.set_cons_zero, List.set_cons_succ])
          refine tk 18 ?_
          (try simp only [Act.put, List.setIfInBounds_toArray, List.set_cons_zero, List.set_cons_succ])
          refine tk 19 ?_
          (try simp only [Act.put, List.setIfInBounds_toArray, List.set_cons_zero, List.set_cons_succ])
          refine tk 20 ?_
          (try simp only [Act.put, List.setIfInBounds_toArray, List.set_cons_zero, List.set_cons_succ])
          refine tk 21 ?_
          (try simp only [Act.put, List.setIfInBounds_toArray, List.set_cons_zero, List.set_cons_succ])
          refine tk 22 ?_
          (try simp only [Act.put, List.setIfInBounds_toArray, List.set_cons_zero, List.set_cons_succ])
          refine tk 23 ?_ (hy := by first | (refine' yields_cell (v := .bool true) ?ta 4 _ ?tb ?tc ?td _ ?te ?tf; (case ta => rfl); (case tb => rfl); (case tc => rfl); (case td => exact fun W hW => hW.frame.cell G2.out); (case te => exact Try.underlying4); (case tf => rfl)) | (refine' yields_cell (v := .bool false) ?ta 4 _ ?tb ?tc ?td _ ?te ?tf; (case ta => rfl); (case tb => rfl); (case tc => rfl); (case td => exact fun W hW => hW.frame.cell G2.out); (case te => exact Try.underlying4); (case tf => rfl)) | (refine' yields_cell (v := .bool l) ?ta 4 _ ?tb ?tc ?td _ ?te ?tf; (case ta => rfl); (case tb => rfl); (case tc => rfl); (case td => exact fun W hW => hW.frame.cell G2.out); (case te => exact Try.underlying4); (case tf => rfl)) | (refine Or.inr ⟨by rfl, ?_⟩; rfl))
          (try simp only [Act.put, List.setIfInBounds_toArray, List.set_cons_zero, List.set_cons_succ])
          refine tk 24 ?_
          (try simp only [Act.put, List.setIfInBounds_toArray, List.set_cons_zero, List.set_cons_succ])
          refine tk 25 ?_
          (try simp only [Act.put, List.setIfInBounds_toArray, List.set_cons_zero, List.set_cons_succ])
          refine tk 26 ?_
          (try simp only [Act.put, List.setIfInBounds_toArray, List.set_cons_zero, List.set_cons_succ])
          refine tk 27 ?_
          (try simp only [Act.put, List.setIfInBounds_toArray, List.set_cons_zero, List.set_cons_succ])
          refine tk 28 ?_
          (try simp only [Act.put, List.setIfInBounds_toArray, List.set_cons_zero, List.set_cons_succ])
          refine tk 29 ?_ (hy := by first | (refine' yields_cell (v := .bool true) ?ta 4 _ ?tb ?tc ?td _ ?te ?tf; (case ta => rfl); (case tb => rfl); (case tc => rfl); (case td => exact fun W hW => hW.frame.cell G3.out); (case te => exact Try.underlying4); (case tf => rfl)) | (refine' yields_cell (v := .bool false) ?ta 4 _ ?tb ?tc ?td _ ?te ?tf; (case ta => rfl); (case tb => rfl); (case tc => rfl); (case td => exact fun W hW => hW.frame.cell G3.out); (case te => exact Try.underlying4); (case tf => rfl)) | (refine' yields_cell (v := .bool b) ?ta 4 _ ?tb ?tc ?td _ ?te ?tf; (case ta => rfl); (case tb => rfl); (case tc => rfl); (case td => exact fun W hW => hW.frame.cell G3.out); (case te => exact Try.underlying4); (case tf => rfl)) | (refine Or.inr ⟨by rfl, ?_⟩; rfl))
          (try simp only [Act.put, List.setIfInBounds_toArray, List.set_cons_zero, List.set_cons_succ])
          refine tk 30 ?_
          (try simp only [Act.put, List.setIfInBounds_toArray, List.set_cons_zero, List.set_cons_succ])
          refine tk 31 ?_
          (try simp only [Act.put, List.setIfInBounds_toArray, List.set_cons_zero, List.set_cons_succ])
          refine tk 32 ?_
          (try simp only [Act.put, List.setIfInBounds_toArray, List.set_cons_zero, List.set_cons_succ])
          refine tk 33 ?_
          (try simp only [Act.put, List.setIfInBounds_toArray, List.set_cons_zero, List.set_cons_succ])
          refine tk 34 ?_
          (try simp only [Act.put, List.setIfInBounds_toArray, List.set_cons_zero, List.set_cons_succ])
          refine tk 35 ?_
          (try simp only [Act.put, List.setIfInBounds_toArray, List.set_cons_zero, List.set_cons_succ])
          refine tk 36 ?_
          (try simp only [Act.put, List.setIfInBounds_toArray, List.set_cons_zero, List.set_cons_succ])
          refine tk 37 ?_
          (try simp only [Act.put, List.setIfInBounds_toArray, List.set_cons_zero, List.set_cons_succ])
          refine tk 38 ?_ (hy := by first | (refine' yields_cell (v := .int .i64 x.ver) ?ta 3 _ ?tb ?tc ?td _ ?te ?tf; (case ta => rfl); (case tb => rfl); (case tc => rfl); (case td => exact fun W hW => (G1.out.fr hW.frame).at_ 6 _ rfl); (case te => exact Try.underlying3); (case tf => rfl)) | (refine Or.inr ⟨by rfl, ?_⟩; rfl))
          (try simp only [Act.put, List.setIfInBounds_toArray, List.set_cons_zero, List.set_cons_succ])
          refine tk 39 ?_
          (try simp only [Act.put, List.setIfInBounds_toArray, List.set_cons_zero, List.set_cons_succ])
          refine tk 40 ?_
          (try simp only [Act.put, List.setIfInBounds_toArray, List.set_cons_zero, List.set_cons_succ])
          refine tk 41 ?_
          (try simp only [Act.put, List.setIfInBounds_toArray, List.set_cons_zero, List.set_cons_succ])
          refine tk 42 ?_
          (try simp only [Act.put, List.setIfInBounds_toArray, List.set_cons_zero, List.set_cons_succ])
          refine wpAnyH_done (by kernel_rfl) ?_ _
          refine NoPanic.normal ?_
          go_wp2
          go_ret
          exact ⟨by rw [R.out]; rfl, S.frame⟩
        | false =>
        by_cases hv : x.ver ≤ s.vsn
        case neg =>
          have tv : decide (s.vsn < x.ver) = true := decide_eq_true (by omega)
          have R := Lib.hid (show okSt s = false by rw [R0.out, sentOk_bad (s := s) (k := k) HIN.out (by rw [HAT.out]; simp [pkAtOk, O1.out, hv])]; simp)
          clear hq hv
          cases l with
          | false =>
            clear hlb
            go_wp2
            have S0 := (Sep.only1 (a1 := aBox gS _ _ _) S delA)
            refine wp_region_noPanic ?_
            refine wp_region_held_drew (S := Sep _ _ _) (by kernel_rfl) S0.drew (fun _ => ?_)
            replace S := S.drew
            clear S0
            refine tk 0 ?_
            (try simp only [Act.put, List.setIfInBounds_toArray, List.set_cons_zero, List.set_cons_succ])
            refine tk 1 ?_
            (try simp only [Act.put, List.setIfInBounds_toArray, List.set_cons_zero, List.set_cons_succ])
            refine tk 2 ?_
            (try simp only [Act.put, List.setIfInBounds_toArray, List.set_cons_zero, List.set_cons_succ])
            refine tk 3 ?_
            (try simp only [Act.put, List.setIfInBounds_toArray, List.set_cons_zero, List.set_cons_succ])
            refine tk 4 ?_ (hy := by first | (refine' yields_pkld (p := x) ?ta 88 _ ?tb ?tc ?td _ ?te ?tf ?tg; (case ta => rfl); (case tb => rfl); (case tc => rfl); (case td => exact fun W hW => G1.out.fr hW.frame); (case te => exact Try.underlying88); (case tf => rfl); (case tg => exact ts88)))
            (try simp only [Act.put, List.setIfInBounds_toArray, List.set_cons_zero, List.set_cons_succ])
            refine rdy1 5 (fun K hK => ?_)
            go_simp; (skip; go_at_call 116; (with_reducible refine (sPacketOk_l _ x).mono ?_); rintro e w9 ⟨rfl, f9⟩; rw [O1.out]; replace S := S.fr f9; clear f9)
            (first | refine hK.out _ _ (S.sub subA) (fun _ => ?_) | (go_wp2_with fail; refine hK.out _ _ (S.sub subA) (fun _ => ?_)))
            clear hK K
            (try simp only [Act.put, List.setIfInBounds_toArray, List.set_cons_zero, List.set_cons_succ])
            refine tk 6 ?_
            (try simp only [Act.put, List.setIfInBounds_toArray, List.set_cons_zero, List.set_cons_succ])
            refine tk 7 ?_
            (try simp only [Act.put, List.setIfInBounds_toArray, List.set_cons_zero, List.set_cons_succ])
            refine tk 8 ?_
            (try simp only [Act.put, List.setIfInBounds_toArray, List.set_cons_zero, List.set_cons_succ])
            refine tk 9 ?_
            (try simp only [Act.put, List.setIfInBounds_toArray, List.set_cons_zero, List.set_cons_succ])
            refine tk 10 ?_
            (try simp only [Act.put, List.setIfInBounds_toArray, List.set_cons_zero, List.set_cons_succ])
            refine tk 11 ?_
            (try simp only [Act.put, List.setIfInBounds_toArray, List.set_cons_zero, List.set_cons_succ])
            refine tk 12 ?_
            (try simp only [Act.put, List.setIfInBounds_toArray, List.set_cons_zero, List.set_cons_succ])
            refine tk 13 ?_ (hy := by first | (refine' yields_cell (v := .int .i64 x.seq) ?ta 3 _ ?tb ?tc ?td _ ?te ?tf; (case ta => rfl); (case tb => rfl); (case tc => rfl); (case td => exact fun W hW => (G1.out.fr hW.frame).at_ 0 _ rfl); (case te => exact Try.underlying3); (case tf => rfl)) | (refine Or.inr ⟨by rfl, ?_⟩; rfl))
            (try simp only [Act.put, List.setIfInBounds_toArray, List.set_cons_zero, List.set_cons_succ])
            refine tk 14 ?_
            (try simp only [Act.put, List.setIfInBounds_toArray, List.set_cons_zero, List.set_cons_succ])
            refine tk 15 ?_
            (try simp only [Act.put, List.setIfInBounds_toArray, List.set_cons_zero, List.set_cons_succ])
            refine tk 16 ?_
            (try simp only [Act.put, List.setIfInBounds_toArray, List.set_cons_zero, List.set_cons_succ])
            refine tk 17 ?_
            (try simp only [Act.put, List.setIfInBounds_toArray, List.set_cons_zero, List.set_cons_succ])
            refine tk 18 ?_
            (try simp only [Act.put, List.setIfInBounds_toArray, List.set_cons_zero, List.set_cons_succ])
            refine tk 19 ?_
            (try simp only [Act.put, List.setIfInBounds_toArray, List.set_cons_zero, List.set_cons_succ])
            refine tk 20 ?_
            (try simp only [Act.put, List.setIfInBounds_toArray, List.set_cons_zero, List.set_cons_succ])
            refine tk 21 ?_
            (try simp only [Act.put, List.setIfInBounds_toArray, List.set_cons_zero, List.set_cons_succ])
            refine tk 22 ?_
            (try simp only [Act.put, List.setIfInBounds_toArray, List.set_cons_zero, List.set_cons_succ])
            refine tk 23 ?_ (hy := by first | (refine' yields_cell (v := .bool true) ?ta 4 _ ?tb ?tc ?td _ ?te ?tf; (case ta => rfl); (case tb => rfl); (case tc => rfl); (case td => exact fun W hW => hW.frame.cell G2.out); (case te => exact Try.underlying4); (case tf => rfl)) | (refine' yields_cell (v := .bool false) ?ta 4 _ ?tb ?tc ?td _ ?te ?tf; (case ta => rfl); (case tb => rfl); (case tc => rfl); (case td => exact fun W hW => hW.frame.cell G2.out); (case te => exact Try.underlying4); (case tf => rfl)) | (refine' yields_cell (v := .bool l) ?ta 4 _ ?tb ?tc ?td _ ?te ?tf; (case ta => rfl); (case tb => rfl); (case tc => rfl); (case td => exact fun W hW => hW.frame.cell G2.out); (case te => exact Try.underlying4); (case tf => rfl)) | (refine Or.inr ⟨by rfl, ?_⟩; rfl))
            (try simp only [Act.put, List.setIfInBounds_toArray, List.set_cons_zero, List.set_cons_succ])
            refine tk 24 ?_
            (try simp only [Act.put, List.setIfInBounds_toArray, List.set_cons_zero, List.set_cons_succ])
            refine tk 25 ?_
            (try simp only [Act.put, List.setIfInBounds_toArray, List.set_cons_zero, List.set_cons_succ])
            refine tk 26 ?_
            (try simp only [Act.put, List.setIfInBounds_toArray, List.set_cons_zero, List.set_cons_succ])
            refine tk 27 ?_
            (try simp only [Act.put, List.setIfInBounds_toArray, List.set_cons_zero, List.set_cons_succ])
            refine tk 28 ?_
            (try simp only [Act.put, List.setIfInBounds_toArray, List.set_cons_zero, List.set_cons_succ])
            refine tk 29 ?_ (hy := by first | (refine' yields_cell (v := .bool true) ?ta 4 _ ?tb ?tc ?td _ ?te ?tf; (case ta => rfl); (case tb => rfl); (case tc => rfl); (case td => exact fun W hW => hW.frame.cell G3.out); (case te => exact Try.underlying4); (case tf => rfl)) | (refine' yields_cell (v := .bool false) ?ta 4 _ ?tb ?tc ?td _ ?te ?tf; (case ta => rfl); (case tb => rfl); (case tc => rfl); (case td => exact fun W hW => hW.frame.cell G3.out); (case te => exact Try.underlying4); (case tf => rfl)) | (refine' yields_cell (v := .bool b) ?ta 4 _ ?tb ?tc ?td _ ?te ?tf; (case ta => rfl); (case tb => rfl); (case tc => rfl); (case td => exact fun W hW => hW.frame.cell G3.out); (case te => exact Try.underlying4); (case tf => rfl)) | (refine Or.inr ⟨by rfl, ?_⟩; rfl))
            (try simp only [Act.put, List.setIfInBounds_toArray, List.set_cons_zero, List.set_cons_succ])
            refine tk 30 ?_
            (try simp only [Act.put, List.setIfInBounds_toArray, List.set_cons_zero, List.set_cons_succ])
            refine tk 31 ?_
            (try simp only [Act.put, List.setIfInBounds_toArray, List.set_cons_zero, List.set_cons_succ])
            refine tk 32 ?_
            (try simp only [Act.put, List.setIfInBounds_toArray, List.set_cons_zero, List.set_cons_succ])
            refine tk 33 ?_
            (try simp only [Act.put, List.setIfInBounds_toArray, List.set_cons_zero, List.set_cons_succ])
            refine tk 34 ?_
            (try simp only [Act.put, List.setIfInBounds_toArray, List.set_cons_zero, List.set_cons_succ])
            refine tk 35 ?_
            (try simp only [Act.put, List.setIfInBounds_toArray, List.set_cons_zero, List.set_cons_succ])
            refine tk 36 ?_
            (try simp only [Act.put, List.setIfInBounds_toArray, List.set_cons_zero, List.set_cons_succ])
            refine tk 37 ?_
            (try simp only [Act.put, List.setIfInBounds_toArray, List.set_cons_zero, List.set_cons_succ])
            refine tk 38 ?_ (hy := by first | (refine' yields_cell (v := .int .i64 x.ver) ?ta 3 _ ?tb ?tc ?td _ ?te ?tf; (case ta => rfl); (case tb => rfl); (case tc => rfl); (case td => exact fun W hW => (G1.out.fr hW.frame).at_ 6 _ rfl); (case te => exact Try.underlying3); (case tf => rfl)) | (refine Or.inr ⟨by rfl, ?_⟩; rfl))
            (try simp only [Act.put, List.setIfInBounds_toArray, List.set_cons_zero, List.set_cons_succ])
            refine tk 39 ?_
            (try simp only [Act.put, List.setIfInBounds_toArray, List.set_cons_zero, List.set_cons_succ])
            refine tk 40 ?_
            (try simp only [Act.put, List.setIfInBounds_toArray, List.set_cons_zero, List.set_cons_succ])
            refine tk 41 ?_
            (try simp only [Act.put, List.setIfInBounds_toArray, List.set_cons_zero, List.set_cons_succ])
            refine tk 42 ?_
            (try simp only [Act.put, List.setIfInBounds_toArray, List.set_cons_zero, List.set_cons_succ])
            refine wpAnyH_done (by kernel_rfl) ?_ _
            refine NoPanic.normal ?_
            go_wp2
            go_ret
            exact ⟨by rw [R.out]; rfl, S.frame⟩
          | true =>
            simp only [Bool.true_and] at hlb
            subst hlb
            go_wp2
            have S0 := (Sep.only1 (a1 := aBox gS _ _ _) S delA)
            refine wp_region_noPanic ?_
            refine wp_region_held_drew (S := Sep _ _ _) (by kernel_rfl) S0.drew (fun _ => ?_)
            replace S := S.drew
            clear S0
            refine tk 0 ?_
            (try simp only [Act.put, List.setIfInBounds_toArray, List.set_cons_zero, List.set_cons_succ])
            refine tk 1 ?_
            (try simp only [Act.put, List.setIfInBounds_toArray, List.set_cons_zero, List.set_cons_succ])
            refine tk 2 ?_
            (try simp only [Act.put, List.setIfInBounds_toArray, List.set_cons_zero, List.set_cons_succ])
            refine tk 3 ?_
            (try simp only [Act.put, List.setIfInBounds_toArray, List.set_cons_zero, List.set_cons_succ])
            refine tk 4 ?_ (hy := by first | (refine' yields_pkld (p := x) ?ta 88 _ ?tb ?tc ?td _ ?te ?tf ?tg; (case ta => rfl); (case tb => rfl); (case tc => rfl); (case td => exact fun W hW => G1.out.fr hW.frame); (case te => exact Try.underlying88); (case tf => rfl); (case tg => exact ts88)))
            (try simp only [Act.put, List.setIfInBounds_toArray, List.set_cons_zero, List.set_cons_succ])
            refine rdy1 5 (fun K hK => ?_)
            go_simp; (skip; go_at_call 116; (with_reducible refine (sPacketOk_l _ x).mono ?_); rintro e w9 ⟨rfl, f9⟩; rw [O1.out]; replace S := S.fr f9; clear f9)
            (first | refine hK.out _ _ (S.sub subA) (fun _ => ?_) | (go_wp2_with fail; refine hK.out _ _ (S.sub subA) (fun _ => ?_)))
            clear hK K
            (try simp only [Act.put, List.setIfInBounds_toArray, List.set_cons_zero, List.set_cons_succ])
            refine tk 6 ?_
            (try simp only [Act.put, List.setIfInBounds_toArray, List.set_cons_zero, List.set_cons_succ])
            refine tk 7 ?_
            (try simp only [Act.put, List.setIfInBounds_toArray, List.set_cons_zero, List.set_cons_succ])
            refine tk 8 ?_
            (try simp only [Act.put, List.setIfInBounds_toArray, List.set_cons_zero, List.set_cons_succ])
            refine tk 9 ?_
            (try simp only [Act.put, List.setIfInBounds_toArray, List.set_cons_zero, List.set_cons_succ])
            refine tk 10 ?_
            (try simp only [Act.put, List.setIfInBounds_toArray, List.set_cons_zero, List.set_cons_succ])
            refine tk 11 ?_
            (try simp only [Act.put, List.setIfInBounds_toArray, List.set_cons_zero, List.set_cons_succ])
            refine tk 12 ?_
            (try simp only [Act.put, List.setIfInBounds_toArray, List.set_cons_zero, List.set_cons_succ])
            refine tk 13 ?_ (hy := by first | (refine' yields_cell (v := .int .i64 x.seq) ?ta 3 _ ?tb ?tc ?td _ ?te ?tf; (case ta => rfl); (case tb => rfl); (case tc => rfl); (case td => exact fun W hW => (G1.out.fr hW.frame).at_ 0 _ rfl); (case te => exact Try.underlying3); (case tf => rfl)) | (refine Or.inr ⟨by rfl, ?_⟩; rfl))
            (try simp only [Act.put, List.setIfInBounds_toArray, List.set_cons_zero, List.set_cons_succ])
            refine tk 14 ?_
            (try simp only [Act.put, List.setIfInBounds_toArray, List.set_cons_zero, List.set_cons_succ])
            refine tk 15 ?_
            (try simp only [Act.put, List.setIfInBounds_toArray, List.set_cons_zero, List.set_cons_succ])
            refine tk 16 ?_
            (try simp only [Act.put, List.setIfInBounds_toArray, List.set_cons_zero, List.set_cons_succ])
            refine tk 17 ?_
            (try simp only [Act.put, List.setIfInBounds_toArray, List.set_cons_zero, List.set_cons_succ])
            refine tk 18 ?_
            (try simp only [Act.put, List.setIfInBounds_toArray, List.set_cons_zero, List.set_cons_succ])
            refine tk 19 ?_
            (try simp only [Act.put, List.setIfInBounds_toArray, List.set_cons_zero, List.set_cons_succ])
            refine tk 20 ?_
            (try simp only [Act.put, List.setIfInBounds_toArray, List.set_cons_zero, List.set_cons_succ])
            refine tk 21 ?_
            (try simp only [Act.put, List.setIfInBounds_toArray, List.set_cons_zero, List.set_cons_succ])
            refine tk 22 ?_
            (try simp only [Act.put, List.setIfInBounds_toArray, List.set_cons_zero, List.set_cons_succ])
            refine tk 23 ?_ (hy := by first | (refine' yields_cell (v := .bool true) ?ta 4 _ ?tb ?tc ?td _ ?te ?tf; (case ta => rfl); (case tb => rfl); (case tc => rfl); (case td => exact fun W hW => hW.frame.cell G2.out); (case te => exact Try.underlying4); (case tf => rfl)) | (refine' yields_cell (v := .bool false) ?ta 4 _ ?tb ?tc ?td _ ?te ?tf; (case ta => rfl); (case tb => rfl); (case tc => rfl); (case td => exact fun W hW => hW.frame.cell G2.out); (case te => exact Try.underlying4); (case tf => rfl)) | (refine' yields_cell (v := .bool l) ?ta 4 _ ?tb ?tc ?td _ ?te ?tf; (case ta => rfl); (case tb => rfl); (case tc => rfl); (case td => exact fun W hW => hW.frame.cell G2.out); (case te => exact Try.underlying4); (case tf => rfl)) | (refine Or.inr ⟨by rfl, ?_⟩; rfl))
            (try simp only [Act.put, List.setIfInBounds_toArray, List.set_cons_zero, List.set_cons_succ])
            refine tk 24 ?_
            (try simp only [Act.put, List.setIfInBounds_toArray, List.set_cons_zero, List.set_cons_succ])
            refine tk 25 ?_
            (try simp only [Act.put, List.setIfInBounds_toArray, List.set_cons_zero, List.set_cons_succ])
            refine tk 26 ?_
            (try simp only [Act.put, List.setIfInBounds_toArray, List.set_cons_zero, List.set_cons_succ])
            refine tk 27 ?_
            (try simp only [Act.put, List.setIfInBounds_toArray, List.set_cons_zero, List.set_cons_succ])
            refine tk 28 ?_
            (try simp only [Act.put, List.setIfInBounds_toArray, List.set_cons_zero, List.set_cons_succ])
            refine tk 29 ?_ (hy := by first | (refine' yields_cell (v := .bool true) ?ta 4 _ ?tb ?tc ?td _ ?te ?tf; (case ta => rfl); (case tb => rfl); (case tc => rfl); (case td => exact fun W hW => hW.frame.cell G3.out); (case te => exact Try.underlying4); (case tf => rfl)) | (refine' yields_cell (v := .bool false) ?ta 4 _ ?tb ?tc ?td _ ?te ?tf; (case ta => rfl); (case tb => rfl); (case tc => rfl); (case td => exact fun W hW => hW.frame.cell G3.out); (case te => exact Try.underlying4); (case tf => rfl)) | (refine' yields_cell (v := .bool b) ?ta 4 _ ?tb ?tc ?td _ ?te ?tf; (case ta => rfl); (case tb => rfl); (case tc => rfl); (case td => exact fun W hW => hW.frame.cell G3.out); (case te => exact Try.underlying4); (case tf => rfl)) | (refine Or.inr ⟨by rfl, ?_⟩; rfl))
            (try simp only [Act.put, List.setIfInBounds_toArray, List.set_cons_zero, List.set_cons_succ])
            refine tk 30 ?_
            (try simp only [Act.put, List.setIfInBounds_toArray, List.set_cons_zero, List.set_cons_succ])
            refine tk 31 ?_
            (try simp only [Act.put, List.setIfInBounds_toArray, List.set_cons_zero, List.set_cons_succ])
            refine tk 32 ?_
            (try simp only [Act.put, List.setIfInBounds_toArray, List.set_cons_zero, List.set_cons_succ])
            refine tk 33 ?_
            (try simp only [Act.put, List.setIfInBounds_toArray, List.set_cons_zero, List.set_cons_succ])
            refine tk 34 ?_
            (try simp only [Act.put, List.setIfInBounds_toArray, List.set_cons_zero, List.set_cons_succ])
            refine tk 35 ?_
            (try simp only [Act.put, List.setIfInBounds_toArray, List.set_cons_zero, List.set_cons_succ])
            refine tk 36 ?_
            (try simp only [Act.put, List.setIfInBounds_toArray, List.set_cons_zero, List.set_cons_succ])
            refine tk 37 ?_
            (try simp only [Act.put, List.setIfInBounds_toArray, List.set_cons_zero, List.set_cons_succ])
            refine tk 38 ?_ (hy := by first | (refine' yields_cell (v := .int .i64 x.ver) ?ta 3 _ ?tb ?tc ?td _ ?te ?tf; (case ta => rfl); (case tb => rfl); (case tc => rfl); (case td => exact fun W hW => (G1.out.fr hW.frame).at_ 6 _ rfl); (case te => exact Try.underlying3); (case tf => rfl)) | (refine Or.inr ⟨by rfl, ?_⟩; rfl))
            (try simp only [Act.put, List.setIfInBounds_toArray, List.set_cons_zero, List.set_cons_succ])
            refine tk 39 ?_
            (try simp only [Act.put, List.setIfInBounds_toArray, List.set_cons_zero, List.set_cons_succ])
            refine tk 40 ?_
            (try simp only [Act.put, List.setIfInBounds_toArray, List.set_cons_zero, List.set_cons_succ])
            refine tk 41 ?_
            (try simp only [Act.put, List.setIfInBounds_toArray, List.set_cons_zero, List.set_cons_succ])
            refine tk 42 ?_
            (try simp only [Act.put, List.setIfInBounds_toArray, List.set_cons_zero, List.set_cons_succ])
            refine wpAnyH_done (by kernel_rfl) ?_ _
            refine NoPanic.normal ?_
            go_wp2
            go_ret
            exact ⟨by rw [R.out]; rfl, S.frame⟩
        have tv : decide (s.vsn < x.ver) = false := decide_eq_false (by omega)
        have R := Lib.hid (range_all_succ HA.out (by rw [HAT.out]; simp [pkAtOk, O1.out, hq, hv, hlb]))
        clear hq hv
        cases l with
        | false =>
          clear hlb
          go_wp2
          have S0 := (Sep.only1 (a1 := aBox gS _ _ _) S delA)
          refine wp_region_noPanic ?_
          refine wp_region_held_drew (S := Sep _ _ _) (by kernel_rfl) S0.drew (fun _ => ?_)
          replace S := S.drew
          clear S0
          refine tk 0 ?_
          (try simp only [Act.put, List.setIfInBounds_toArray, List.set_cons_zero, List.set_cons_succ])
          refine tk 1 ?_
          (try simp only [Act.put, List.setIfInBounds_toArray, List.set_cons_zero, List.set_cons_succ])
          refine tk 2 ?_
          (try simp only [Act.put, List.setIfInBounds_toArray, List.set_cons_zero, List.set_cons_succ])
          refine tk 3 ?_
          (try simp only [Act.put, List.setIfInBounds_toArray, List.set_cons_zero, List.set_cons_succ])
          refine tk 4 ?_ (hy := by first | (refine' yields_pkld (p := x) ?ta 88 _ ?tb ?tc ?td _ ?te ?tf ?tg; (case ta => rfl); (case tb => rfl); (case tc => rfl); (case td => exact fun W hW => G1.out.fr hW.frame); (case te => exact Try.underlying88); (case tf => rfl); (case tg => exact ts88)))
          (try simp only [Act.put, List.setIfInBounds_toArray, List.set_cons_zero, List.set_cons_succ])
          refine rdy1 5 (fun K hK => ?_)
          go_simp; (skip; go_at_call 116; (with_reducible refine (sPacketOk_l _ x).mono ?_); rintro e w9 ⟨rfl, f9⟩; rw [O1.out]; replace S := S.fr f9; clear f9)
          (first | refine hK.out _ _ (S.sub subA) (fun _ => ?_) | (go_wp2_with fail; refine hK.out _ _ (S.sub subA) (fun _ => ?_)))
          clear hK K
          (try simp only [Act.put, List.setIfInBounds_toArray, List.set_cons_zero, List.set_cons_succ])
          refine tk 6 ?_
          (try simp only [Act.put, List.setIfInBounds_toArray, List.set_cons_zero, List.set_cons_succ])
          refine tk 7 ?_
          (try simp only [Act.put, List.setIfInBounds_toArray, List.set_cons_zero, List.set_cons_succ])
          refine tk 8 ?_
          (try simp only [Act.put, List.setIfInBounds_toArray, List.set_cons_zero, List.set_cons_succ])
          refine tk 9 ?_
          (try simp only [Act.put, List.setIfInBounds_toArray, List.set_cons_zero, List.set_cons_succ])
          refine tk 10 ?_
          (try simp only [Act.put, List.setIfInBounds_toArray, List.set_cons_zero, List.set_cons_succ])
          refine tk 11 ?_
          (try simp only [Act.put, List.setIfInBounds_toArray, List.set_cons_zero, List.set_cons_succ])
          refine tk 12 ?_
          (try simp only [Act.put, List.setIfInBounds_toArray, List.set_cons_zero, List.set_cons_succ])
          refine tk 13 ?_ (hy := by first | (refine' yields_cell (v := .int .i64 x.seq) ?ta 3 _ ?tb ?tc ?td _ ?te ?tf; (case ta => rfl); (case tb => rfl); (case tc => rfl); (case td => exact fun W hW => (G1.out.fr hW.frame).at_ 0 _ rfl); (case te => exact Try.underlying3); (case tf => rfl)) | (refine Or.inr ⟨by rfl, ?_⟩; rfl))
          (try simp only [Act.put, List.setIfInBounds_toArray, List.set_cons_zero, List.set_cons_succ])
          refine tk 14 ?_
          (try simp only [Act.put, List.setIfInBounds_toArray, List.set_cons_zero, List.set_cons_succ])
          refine tk 15 ?_
          (try simp only [Act.put, List.setIfInBounds_toArray, List.set_cons_zero, List.set_cons_succ])
          refine tk 16 ?_
          (try simp only [Act.put, List.setIfInBounds_toArray, List.set_cons_zero, List.set_cons_succ])
          refine tk 17 ?_
          (try simp only [Act.put, List.setIfInBounds_toArray, List.set_cons_zero, List.set_cons_succ])
          refine tk 18 ?_
          (try simp only [Act.put, List.setIfInBounds_toArray, List.set_cons_zero, List.set_cons_succ])
          refine tk 19 ?_
          (try simp only [Act.put, List.setIfInBounds_toArray, List.set_cons_zero, List.set_cons_succ])
          refine tk 20 ?_
          (try simp only [Act.put, List.setIfInBounds_toArray, List.set_cons_zero, List.set_cons_succ])
          refine tk 21 ?_
          (try simp only [Act.put, List.setIfInBounds_toArray, List.set_cons_zero, List.set_cons_succ])
          refine tk 22 ?_
          (try simp only [Act.put, List.setIfInBounds_toArray, List.set_cons_zero, List.set_cons_succ])
          refine tk 23 ?_ (hy := by first | (refine' yields_cell (v := .bool true) ?ta 4 _ ?tb ?tc ?td _ ?te ?tf; (case ta => rfl); (case tb => rfl); (case tc => rfl); (case td => exact fun W hW => hW.frame.cell G2.out); (case te => exact Try.underlying4); (case tf => rfl)) | (refine' yields_cell (v := .bool false) ?ta 4 _ ?tb ?tc ?td _ ?te ?tf; (case ta => rfl); (case tb => rfl); (case tc => rfl); (case td => exact fun W hW => hW.frame.cell G2.out); (case te => exact Try.underlying4); (case tf => rfl)) | (refine' yields_cell (v := .bool l) ?ta 4 _ ?tb ?tc ?td _ ?te ?tf; (case ta => rfl); (case tb => rfl); (case tc => rfl); (case td => exact fun W hW => hW.frame.cell G2.out); (case te => exact Try.underlying4); (case tf => rfl)) | (refine Or.inr ⟨by rfl, ?_⟩; rfl))
          (try simp only [Act.put, List.setIfInBounds_toArray, List.set_cons_zero, List.set_cons_succ])
          refine tk 24 ?_
          (try simp only [Act.put, List.setIfInBounds_toArray, List.set_cons_zero, List.set_cons_succ])
          refine tk 25 ?_
          (try simp only [Act.put, List.setIfInBounds_toArray, List.set_cons_zero, List.set_cons_succ])
          refine tk 26 ?_
          (try simp only [Act.put, List.setIfInBounds_toArray, List.set_cons_zero, List.set_cons_succ])
          refine tk 27 ?_
          (try simp only [Act.put, List.setIfInBounds_toArray, List.set_cons_zero, List.set_cons_succ])
          refine tk 28 ?_
          (try simp only [Act.put, List.setIfInBounds_toArray, List.set_cons_zero, List.set_cons_succ])
          refine tk 29 ?_ (hy := by first | (refine' yields_cell (v := .bool true) ?ta 4 _ ?tb ?tc ?td _ ?te ?tf; (case ta => rfl); (case tb => rfl); (case tc => rfl); (case td => exact fun W hW => hW.frame.cell G3.out); (case te => exact Try.underlying4); (case tf => rfl)) | (refine' yields_cell (v := .bool false) ?ta 4 _ ?tb ?tc ?td _ ?te ?tf; (case ta => rfl); (case tb => rfl); (case tc => rfl); (case td => exact fun W hW => hW.frame.cell G3.out); (case te => exact Try.underlying4); (case tf => rfl)) | (refine' yields_cell (v := .bool b) ?ta 4 _ ?tb ?tc ?td _ ?te ?tf; (case ta => rfl); (case tb => rfl); (case tc => rfl); (case td => exact fun W hW => hW.frame.cell G3.out); (case te => exact Try.underlying4); (case tf => rfl)) | (refine Or.inr ⟨by rfl, ?_⟩; rfl))
          (try simp only [Act.put, List.setIfInBounds_toArray, List.set_cons_zero, List.set_cons_succ])
          refine tk 30 ?_
          (try simp only [Act.put, List.setIfInBounds_toArray, List.set_cons_zero, List.set_cons_succ])
          refine tk 31 ?_
          (try simp only [Act.put, List.setIfInBounds_toArray, List.set_cons_zero, List.set_cons_succ])
          refine tk 32 ?_
          (try simp only [Act.put, List.setIfInBounds_toArray, List.set_cons_zero, List.set_cons_succ])
          refine tk 33 ?_
          (try simp only [Act.put, List.setIfInBounds_toArray, List.set_cons_zero, List.set_cons_succ])
          refine tk 34 ?_
          (try simp only [Act.put, List.setIfInBounds_toArray, List.set_cons_zero, List.set_cons_succ])
          refine tk 35 ?_
          (try simp only [Act.put, List.setIfInBounds_toArray, List.set_cons_zero, List.set_cons_succ])
          refine tk 36 ?_
          (try simp only [Act.put, List.setIfInBounds_toArray, List.set_cons_zero, List.set_cons_succ])
          refine tk 37 ?_
          (try simp only [Act.put, List.setIfInBounds_toArray, List.set_cons_zero, List.set_cons_succ])
          refine tk 38 ?_ (hy := by first | (refine' yields_cell (v := .int .i64 x.ver) ?ta 3 _ ?tb ?tc ?td _ ?te ?tf; (case ta => rfl); (case tb => rfl); (case tc => rfl); (case td => exact fun W hW => (G1.out.fr hW.frame).at_ 6 _ rfl); (case te => exact Try.underlying3); (case tf => rfl)) | (refine Or.inr ⟨by rfl, ?_⟩; rfl))
          (try simp only [Act.put, List.setIfInBounds_toArray, List.set_cons_zero, List.set_cons_succ])
          refine tk 39 ?_
          (try simp only [Act.put, List.setIfInBounds_toArray, List.set_cons_zero, List.set_cons_succ])
          refine tk 40 ?_
          (try simp only [Act.put, List.setIfInBounds_toArray, List.set_cons_zero, List.set_cons_succ])
          refine tk 41 ?_
          (try simp only [Act.put, List.setIfInBounds_toArray, List.set_cons_zero, List.set_cons_succ])
          refine tk 42 ?_
          (try simp only [Act.put, List.setIfInBounds_toArray, List.set_cons_zero, List.set_cons_succ])
          refine wpAnyH_done (by kernel_rfl) ?_ _
          refine NoPanic.normal ?_
          go_wp2
          go_roundw
          case rel => exact ⟨k + 1, by omega, by go_num, R.out, (Sep.only1 (a1 := aBox gS _ _ _) S delA)⟩
          case measure => simp [intOf]; omega
        | true =>
          simp only [Bool.true_and] at hlb
          subst hlb
          go_wp2
          have S0 := (Sep.only1 (a1 := aBox gS _ _ _) S delA)
          refine wp_region_noPanic ?_
          refine wp_region_held_drew (S := Sep _ _ _) (by kernel_rfl) S0.drew (fun _ => ?_)
          replace S := S.drew
          clear S0
          refine tk 0 ?_
          (try simp only [Act.put, List.setIfInBounds_toArray, List.set_cons_zero, List.set_cons_succ])
          refine tk 1 ?_
          (try simp only [Act.put, List.setIfInBounds_toArray, List.set_cons_zero, List.set_cons_succ])
          refine tk 2 ?_
          (try simp only [Act.put, List.setIfInBounds_toArray, List.set_cons_zero, List.set_cons_succ])
          refine tk 3 ?_
          (try simp only [Act.put, List.setIfInBounds_toArray, List.set_cons_zero, List.set_cons_succ])
          refine tk 4 ?_ (hy := by first | (refine' yields_pkld (p := x) ?ta 88 _ ?tb ?tc ?td _ ?te ?tf ?tg; (case ta => rfl); (case tb => rfl); (case tc => rfl); (case td => exact fun W hW => G1.out.fr hW.frame); (case te => exact Try.underlying88); (case tf => rfl); (case tg => exact ts88)))
          (try simp only [Act.put, List.setIfInBounds_toArray, List.set_cons_zero, List.set_cons_succ])
          refine rdy1 5 (fun K hK => ?_)
          go_simp; (skip; go_at_call 116; (with_reducible refine (sPacketOk_l _ x).mono ?_); rintro e w9 ⟨rfl, f9⟩; rw [O1.out]; replace S := S.fr f9; clear f9)
          (first | refine hK.out _ _ (S.sub subA) (fun _ => ?_) | (go_wp2_with fail; refine hK.out _ _ (S.sub subA) (fun _ => ?_)))
          clear hK K
          (try simp only [Act.put, List.setIfInBounds_toArray, List.set_cons_zero, List.set_cons_succ])
          refine tk 6 ?_
          (try simp only [Act.put, List.setIfInBounds_toArray, List.set_cons_zero, List.set_cons_succ])
          refine tk 7 ?_
          (try simp only [Act.put, List.setIfInBounds_toArray, List.set_cons_zero, List.set_cons_succ])
          refine tk 8 ?_
          (try simp only [Act.put, List.setIfInBounds_toArray, List.set_cons_zero, List.set_cons_succ])
          refine tk 9 ?_
          (try simp only [Act.put, List.setIfInBounds_toArray, List.set_cons_zero, List.set_cons_succ])
          refine tk 10 ?_
          (try simp only [Act.put, List.setIfInBounds_toArray, List.set_cons_zero, List.set_cons_succ])
          refine tk 11 ?_
          (try simp only [Act.put, List.setIfInBounds_toArray, List.set_cons_zero, List.set_cons_succ])
          refine tk 12 ?_
          (try simp only [Act.put, List.setIfInBounds_toArray, List.set_cons_zero, List.set_cons_succ])
          refine tk 13 ?_ (hy := by first | (refine' yields_cell (v := .int .i64 x.seq) ?ta 3 _ ?tb ?tc ?td _ ?te ?tf; (case ta => rfl); (case tb => rfl); (case tc => rfl); (case td => exact fun W hW => (G1.out.fr hW.frame).at_ 0 _ rfl); (case te => exact Try.underlying3); (case tf => rfl)) | (refine Or.inr ⟨by rfl, ?_⟩; rfl))
          (try simp only [Act.put, List.setIfInBounds_toArray, List.set_cons_zero, List.set_cons_succ])
          refine tk 14 ?_
          (try simp only [Act.put, List.setIfInBounds_toArray, List.set_cons_zero, List.set_cons_succ])
          refine tk 15 ?_
          (try simp only [Act.put, List.setIfInBounds_toArray, List.set_cons_zero, List.set_cons_succ])
          refine tk 16 ?_
          (try simp only [Act.put, List.setIfInBounds_toArray, List.set_cons_zero, List.set_cons_succ])
          refine tk 17 ?_
          (try simp only [Act.put, List.setIfInBounds_toArray, List.set_cons_zero, List.set_cons_succ])
          refine tk 18 ?_
          (try simp only [Act.put, List.setIfInBounds_toArray, List.set_cons_zero, List.set_cons_succ])
          refine tk 19 ?_
          (try simp only [Act.put, List.setIfInBounds_toArray, List.set_cons_zero, List.set_cons_succ])
          refine tk 20 ?_
          (try simp only [Act.put, List.setIfInBounds_toArray, List.set_cons_zero, List.set_cons_succ])
          refine tk 21 ?_
          (try simp only [Act.put, List.setIfInBounds_toArray, List.set_cons_zero, List.set_cons_succ])
          refine tk 22 ?_
          (try simp only [Act.put, List.setIfInBounds_toArray, List.set_cons_zero, List.set_cons_succ])
          refine tk 23 ?_ (hy := by first | (refine' yields_cell (v := .bool true) ?ta 4 _ ?tb ?tc ?td _ ?te ?tf; (case ta => rfl); (case tb => rfl); (case tc => rfl); (case td => exact fun W hW => hW.frame.cell G2.out); (case te => exact Try.underlying4); (case tf => rfl)) | (refine' yields_cell (v := .bool false) ?ta 4 _ ?tb ?tc ?td _ ?te ?tf; (case ta => rfl); (case tb => rfl); (case tc => rfl); (case td => exact fun W hW => hW.frame.cell G2.out); (case te => exact Try.underlying4); (case tf => rfl)) | (refine' yields_cell (v := .bool l) ?ta 4 _ ?tb ?tc ?td _ ?te ?tf; (case ta => rfl); (case tb => rfl); (case tc => rfl); (case td => exact fun W hW => hW.frame.cell G2.out); (case te => exact Try.underlying4); (case tf => rfl)) | (refine Or.inr ⟨by rfl, ?_⟩; rfl))
          (try simp only [Act.put, List.setIfInBounds_toArray, List.set_cons_zero, List.set_cons_succ])
          refine tk 24 ?_
          (try simp only [Act.put, List.setIfInBounds_toArray, List.set_cons_zero, List.set_cons_succ])
          refine tk 25 ?_
          (try simp only [Act.put, List.setIfInBounds_toArray, List.set_cons_zero, List.set_cons_succ])
          refine tk 26 ?_
          (try simp only [Act.put, List.setIfInBounds_toArray, List.set_cons_zero, List.set_cons_succ])
          refine tk 27 ?_
          (try simp only [Act.put, List.setIfInBounds_toArray, List.set_cons_zero, List.set_cons_succ])
          refine tk 28 ?_
          (try simp only [Act.put, List.setIfInBounds_toArray, List.set_cons_zero, List.set_cons_succ])
          refine tk 29 ?_ (hy := by first | (refine' yields_cell (v := .bool true) ?ta 4 _ ?tb ?tc ?td _ ?te ?tf; (case ta => rfl); (case tb => rfl); (case tc => rfl); (case td => exact fun W hW => hW.frame.cell G3.out); (case te => exact Try.underlying4); (case tf => rfl)) | (refine' yields_cell (v := .bool false) ?ta 4 _ ?tb ?tc ?td _ ?te ?tf; (case ta => rfl); (case tb => rfl); (case tc => rfl); (case td => exact fun W hW => hW.frame.cell G3.out); (case te => exact Try.underlying4); (case tf => rfl)) | (refine' yields_cell (v := .bool b) ?ta 4 _ ?tb ?tc ?td _ ?te ?tf; (case ta => rfl); (case tb => rfl); (case tc => rfl); (case td => exact fun W hW => hW.frame.cell G3.out); (case te => exact Try.underlying4); (case tf => rfl)) | (refine Or.inr ⟨by rfl, ?_⟩; rfl))
          (try simp only [Act.put, List.setIfInBounds_toArray, List.set_cons_zero, List.set_cons_succ])
          refine tk 30 ?_
          (try simp only [Act.put, List.setIfInBounds_toArray, List.set_cons_zero, List.set_cons_succ])
          refine tk 31 ?_
          (try simp only [Act.put, List.setIfInBounds_toArray, List.set_cons_zero, List.set_cons_succ])
          refine tk 32 ?_
          (try simp only [Act.put, List.setIfInBounds_toArray, List.set_cons_zero, List.set_cons_succ])
          refine tk 33 ?_
          (try simp only [Act.put, List.setIfInBounds_toArray, List.set_cons_zero, List.set_cons_succ])
          refine tk 34 ?_
          (try simp only [Act.put, List.setIfInBounds_toArray, List.set_cons_zero, List.set_cons_succ])
          refine tk 35 ?_
          (try simp only [Act.put, List.setIfInBounds_toArray, List.set_cons_zero, List.set_cons_succ])
          refine tk 36 ?_
          (try simp only [Act.put, List.setIfInBounds_toArray, List.set_cons_zero, List.set_cons_succ])
          refine tk 37 ?_
          (try simp only [Act.put, List.setIfInBounds_toArray, List.set_cons_zero, List.set_cons_succ])
          refine tk 38 ?_ (hy := by first | (refine' yields_cell (v := .int .i64 x.ver) ?ta 3 _ ?tb ?tc ?td _ ?te ?tf; (case ta => rfl); (case tb => rfl); (case tc => rfl); (case td => exact fun W hW => (G1.out.fr hW.frame).at_ 6 _ rfl); (case te => exact Try.underlying3); (case tf => rfl)) | (refine Or.inr ⟨by rfl, ?_⟩; rfl))
          (try simp only [Act.put, List.setIfInBounds_toArray, List.set_cons_zero, List.set_cons_succ])
          refine tk 39 ?_
          (try simp only [Act.put, List.setIfInBounds_toArray, List.set_cons_zero, List.set_cons_succ])
          refine tk 40 ?_
          (try simp only [Act.put, List.setIfInBounds_toArray, List.set_cons_zero, List.set_cons_succ])
          refine tk 41 ?_
          (try simp only [Act.put, List.setIfInBounds_toArray, List.set_cons_zero, List.set_cons_succ])
          refine tk 42 ?_
          (try simp only [Act.put, List.setIfInBounds_toArray, List.set_cons_zero, List.set_cons_succ])
          refine wpAnyH_done (by kernel_rfl) ?_ _
          refine NoPanic.normal ?_
          go_wp2
          go_roundw
          case rel => exact ⟨k + 1, by omega, by go_num, R.out, (Sep.only1 (a1 := aBox gS _ _ _) S delA)⟩
          case measure => simp [intOf]; omega
    · obtain rfl : n = k := by omega
      have R := Lib.hid (show okSt s = (wantOk s && gotOk s.got) by rw [R0.out, SO.out, HA.out, Bool.and_true])
      clear HA
      have pv : 1 ≤ s.vsn ∧ s.vsn ≤ 9 := of_decide_eq_true W2.out
      have pw : IntKind.i64.wrap (s.vsn + 1) = s.vsn + 1 := IntWalk.i64_in _ (by omega)
      clear pv
      go_wp2_with (first | ((with_reducible refine gate_box rfl ?_); refine aBx S ?_; clear S; intro g9 w9 z9 S) | ((with_reducible refine gate_load rfl ?_); first | refine aLd S ?_ | refine aPt S ?_ | refine aL1 S ?_))
      go_loopw [5] (fun i wr => ∃ k : Nat, k ≤ 8 ∧ i = .int .i64 k ∧ (s.got.take k).all rng2 = true ∧ Sep [] w [aBox gS 30 7 [.int .i64 s.way, .int .i64 s.vsn, .int .i64 s.want, .slice A1 n c1, .slice A2 n c2, .slice A3 n c3, .slice A4 8 c4]] wr) (fun i _ => 8 - (intOf i).toNat)
      case atStart => exact ⟨0, Nat.zero_le _, rfl, rfl, S⟩
      case round =>
        clear S
        obtain ⟨k, hk8, rfl, hall, S⟩ := hrel
        have HA := Lib.hid hall
        clear hall
        by_cases hlt8 : k < 8
        · have hin : k < s.got.length := by rw [E4.out]; exact hlt8
          obtain ⟨ad4, rfl, g4⟩ := row_int_at h14 k hin
          have HIN := Lib.hid hin
          have G4 := Lib.hid g4
          clear g4
          have p1 : (k : Int) < 8 := by omega
          cases o1 : rng2 (s.got[k]'HIN.out) with
          | false =>
            have R2 := Lib.hid (show okSt s = false by rw [R.out, gotOk_bad HIN.out o1]; simp)
            have O1 := Lib.hid (show decide (0 ≤ s.got[k]'HIN.out ∧ s.got[k]'HIN.out ≤ 2) = false from o1)
            clear o1
            go_wp2_with (first
              | ((with_reducible refine gate_dst (N := 102) rfl ?_); refine wpList_rowint (by rfl) 3 _ rfl rfl (S.frame.cell G4.out) _ Try.underlying3 rfl ?_)
              | (go_at_call 61; (with_reducible refine (l6In_e _ _ 0 2 O1.out).mono ?_); rintro e w9 ⟨rfl, rfl⟩)
              | ((with_reducible refine gate_box rfl ?_); refine aBx S ?_; clear S; intro g9 w9 z9 S) | ((with_reducible refine gate_load rfl ?_); first | refine aLd S ?_ | refine aPt S ?_ | refine aL1 S ?_))
            go_ret
            exact ⟨by rw [R2.out]; rfl, S.frame⟩
          | true =>
            have R2 := Lib.hid (allr_succ HIN.out HA.out o1)
            have O1 := Lib.hid (show decide (0 ≤ s.got[k]'HIN.out ∧ s.got[k]'HIN.out ≤ 2) = true from o1)
            clear o1
            go_wp2_with (first
              | ((with_reducible refine gate_dst (N := 102) rfl ?_); refine wpList_rowint (by rfl) 3 _ rfl rfl (S.frame.cell G4.out) _ Try.underlying3 rfl ?_)
              | (go_at_call 61; (with_reducible refine (l6In_e _ _ 0 2 O1.out).mono ?_); rintro e w9 ⟨rfl, rfl⟩)
              | ((with_reducible refine gate_box rfl ?_); refine aBx S ?_; clear S; intro g9 w9 z9 S) | ((with_reducible refine gate_load rfl ?_); first | refine aLd S ?_ | refine aPt S ?_ | refine aL1 S ?_))
            go_roundw
            case rel => exact ⟨k + 1, by omega, by go_num, R2.out, S⟩
            case measure => simp [intOf]; omega
        · obtain rfl : k = 8 := by omega
          have R2 := Lib.hid (show okSt s = wantOk s by rw [R.out, GO.out]; have h := HA.out; rw [List.take_of_length_le (by rw [E4.out]; omega)] at h; rw [h, Bool.and_true])
          clear HA
          by_cases ew : s.way = 4
          · have tw : (s.way == 4) = true := by simpa using ew
            by_cases e5 : s.want = s.vsn + 1
            · have t5 : (s.want == s.vsn + 1) = true := by simpa using e5
              cases e6 : decide (s.want ≤ 9) with
              | true =>
                have R3 := Lib.hid (show okSt s = true by rw [R2.out]; unfold wantOk; rw [if_pos ew, decide_eq_true e5, e6]; rfl)
                clear ew e5
                go_wp2_with (first | ((with_reducible refine gate_box rfl ?_); refine aBx S ?_; clear S; intro g9 w9 z9 S) | ((with_reducible refine gate_load rfl ?_); first | refine aLd S ?_ | refine aPt S ?_ | refine aL1 S ?_))
                go_ret
                exact ⟨by rw [R3.out]; rfl, S.frame⟩
              | false =>
                have R3 := Lib.hid (show okSt s = false by rw [R2.out]; unfold wantOk; rw [if_pos ew, decide_eq_true e5, e6]; rfl)
                clear ew e5
                go_wp2_with (first | ((with_reducible refine gate_box rfl ?_); refine aBx S ?_; clear S; intro g9 w9 z9 S) | ((with_reducible refine gate_load rfl ?_); first | refine aLd S ?_ | refine aPt S ?_ | refine aL1 S ?_))
                go_ret
                exact ⟨by rw [R3.out]; rfl, S.frame⟩
            · have t5 : (s.want == s.vsn + 1) = false := by simpa using e5
              have R3 := Lib.hid (show okSt s = false by rw [R2.out]; unfold wantOk; rw [if_pos ew, decide_eq_false e5]; rfl)
              clear ew e5
              go_wp2_with (first | ((with_reducible refine gate_box rfl ?_); refine aBx S ?_; clear S; intro g9 w9 z9 S) | ((with_reducible refine gate_load rfl ?_); first | refine aLd S ?_ | refine aPt S ?_ | refine aL1 S ?_))
              go_ret
              exact ⟨by rw [R3.out]; rfl, S.frame⟩
          · have tw : (s.way == 4) = false := by simpa using ew
            have R3 := Lib.hid (show okSt s = (s.want == 0) by rw [R2.out]; unfold wantOk; rw [if_neg ew])
            clear ew
            go_wp2_with (first | ((with_reducible refine gate_box rfl ?_); refine aBx S ?_; clear S; intro g9 w9 z9 S) | ((with_reducible refine gate_load rfl ?_); first | refine aLd S ?_ | refine aPt S ?_ | refine aL1 S ?_))
            go_ret
            exact ⟨by rw [R3.out]; rfl, S.frame⟩
end Go.Proofs.Ytapdcgjccckjeaa
namespace Go.Proofs.Ytapdcgjccckjeaa
set_option maxRecDepth 100000
set_option linter.unusedVariables false
set_option linter.unusedSimpArgs false
open Go.RowKit
theorem okSt_len {s : St} (h : okSt s = true) : s.sent.length ≤ 8 ∧ s.live.length = s.sent.length ∧ s.back.length = s.sent.length ∧ s.got.length = 8 := by
  simp only [okSt, sentOk, gotOk, Bool.and_eq_true, decide_eq_true_eq, beq_iff_eq] at h
  exact ⟨h.1.2.1.1.1, h.1.2.1.1.2, h.1.2.1.2, h.2.1⟩
theorem okSt_got {s : St} (h : okSt s = true) (k : Nat) (hk : k < s.got.length) : 0 ≤ s.got[k] ∧ s.got[k] ≤ 2 := by
  simp only [okSt, gotOk, Bool.and_eq_true, List.all_eq_true] at h
  exact of_decide_eq_true (h.2.2 _ (List.getElem_mem hk))
def settled (s : St) (n : Int) : Int := if okSt s = true ∧ 1 ≤ n ∧ n ≤ s.sent.length then (if s.live.getD (n - 1).toNat false = true then 1 else if s.back.getD (n - 1).toNat false = true then 3 else 2) else 0
def gotV (s : St) (n : Int) : Int := if okSt s = true ∧ 1 ≤ n ∧ n ≤ 8 then s.got.getD (n - 1).toNat 0 else 0
theorem sStateOk_r (w : World) (s : St) (c0 : List Value) (h1 : tSt.rd w s c0) {r : Bool} (h : okSt s = r) : Calls Try.prog 88 #[.agg c0.toArray] w (Ret (.bool r) w) := h ▸ sStateOk_c w s c0 h1
theorem StateOk_r (w : World) (s : St) (c0 : List Value) (h1 : tSt.rd w s c0) {r : Bool} (h : okSt s = r) : Calls Try.prog 68 #[.agg c0.toArray] w (Ret (.bool r) w) := h ▸ StateOk_c w s c0 h1
set_option maxHeartbeats 1600000 in
theorem StateSettled_c (w : World) (s : St) (c0 : List Value) (h1 : tSt.rd w s c0) (n : Int) : Calls Try.prog 152 #[.agg c0.toArray, .int .i64 n] w (Ret (.int .i64 (settled s n)) w) := by
  have Q := Lib.hid h1
  obtain ⟨v1, v2, v3, v4, rfl, h11, h12, h13, h14, h15⟩ := h1
  obtain ⟨A1, c1, rfl⟩ := h11.val
  obtain ⟨A2, c2, rfl⟩ := h12.val
  obtain ⟨A3, c3, rfl⟩ := h13.val
  obtain ⟨A4, c4, rfl⟩ := h14.val
  have FIN := Lib.hid (fun (W : World) (f : Fr w W) => tSt.fr f Q.out)
  have S := Sep.start w
  clear h15
  cases o1 : okSt s with
  | false =>
    have r := Lib.hid (show settled s n = 0 by unfold settled; rw [if_neg]; rintro ⟨h, _⟩; rw [o1] at h; cases h)
    have O1 := Lib.hid o1
    clear o1
    go_enter Try.func152, Try.ntmps152
    go_wp2_with (first
      | (go_at_call 68; (with_reducible refine (StateOk_r _ s _ (FIN.out _ S.frame) O1.out).mono ?_); rintro e w9 ⟨rfl, f9⟩; replace S := S.fr f9; clear f9)
      | ((with_reducible refine gate_box rfl ?_); refine aBx S ?_; clear S; intro g9 w9 z9 S) | ((with_reducible refine gate_load rfl ?_); first | refine aLd S ?_ | refine aPt S ?_ | refine aL1 S ?_))
    go_ret
    exact ⟨by rw [r.out]; rfl, S.frame⟩
  | true =>
  have LN := Lib.hid (okSt_len o1)
  by_cases hn : 1 ≤ n ∧ n ≤ s.sent.length
  case neg =>
    have r := Lib.hid (show settled s n = 0 by unfold settled; rw [if_neg]; rintro ⟨_, h⟩; exact hn h)
    have O1 := Lib.hid o1
    clear o1
    by_cases n1 : n < 1
    · have t1 : decide (n < 1) = true := decide_eq_true n1
      clear hn n1
      go_enter Try.func152, Try.ntmps152
      go_wp2_with (first
      | (go_at_call 68; (with_reducible refine (StateOk_r _ s _ (FIN.out _ S.frame) O1.out).mono ?_); rintro e w9 ⟨rfl, f9⟩; replace S := S.fr f9; clear f9)
      | ((with_reducible refine gate_box rfl ?_); refine aBx S ?_; clear S; intro g9 w9 z9 S) | ((with_reducible refine gate_load rfl ?_); first | refine aLd S ?_ | refine aPt S ?_ | refine aL1 S ?_))
      go_ret
      exact ⟨by rw [r.out]; rfl, S.frame⟩
    · have t1 : decide (n < 1) = false := decide_eq_false n1
      have t2 : decide ((s.sent.length : Int) < n) = true := decide_eq_true (by omega)
      clear hn n1
      go_enter Try.func152, Try.ntmps152
      go_wp2_with (first
      | (go_at_call 68; (with_reducible refine (StateOk_r _ s _ (FIN.out _ S.frame) O1.out).mono ?_); rintro e w9 ⟨rfl, f9⟩; replace S := S.fr f9; clear f9)
      | ((with_reducible refine gate_box rfl ?_); refine aBx S ?_; clear S; intro g9 w9 z9 S) | ((with_reducible refine gate_load rfl ?_); first | refine aLd S ?_ | refine aPt S ?_ | refine aL1 S ?_))
      go_ret
      exact ⟨by rw [r.out]; rfl, S.frame⟩
  obtain ⟨k, rfl⟩ : ∃ k : Nat, n = (k : Int) + 1 := ⟨(n - 1).toNat, by omega⟩
  have hk : k < s.sent.length := by omega
  have k2 : k < s.live.length := by rw [LN.out.2.1]; exact hk
  have k3 : k < s.back.length := by rw [LN.out.2.2.1]; exact hk
  obtain ⟨ad2, rfl, g2⟩ := row_bool_at h12 k k2
  obtain ⟨ad3, rfl, g3⟩ := row_bool_at h13 k k3
  have hs : settled s ((k : Int) + 1) = if s.live[k]'k2 = true then 1 else if s.back[k]'k3 = true then 3 else 2 := by
    unfold settled
    rw [if_pos ⟨o1, by omega, by omega⟩, show ((k : Int) + 1 - 1).toNat = k by omega]
    simp [k2, k3]
  have e2 := LN.out.2.1
  have e3 := LN.out.2.2.1
  have m8 := LN.out.1
  obtain ⟨L, hL⟩ : ∃ L, s.sent.length = L := ⟨_, rfl⟩
  have FN := Lib.hid (fun (W : World) (f : Fr w W) => FIN.out W f)
  rw [e2, e3, hL] at FN ⊢
  generalize s.live[k]'k2 = l at *
  generalize s.back[k]'k3 = b at *
  have pw : IntKind.i64.wrap ((k : Int) + 1 - 1) = k := by rw [show (k : Int) + 1 - 1 = k by omega]; exact IntWalk.i64_in _ (by omega)
  have pw2 : IntKind.i64.wrap (k : Int) = k := IntWalk.i64_in _ (by omega)
  have HS := Lib.hid hs
  have G2 := Lib.hid g2
  have G3 := Lib.hid g3
  have O1 := Lib.hid o1
  have p1 : (k : Int) < L := by omega
  have t1 : decide ((k : Int) + 1 < 1) = false := decide_eq_false (by omega)
  have t2 : decide ((L : Int) < (k : Int) + 1) = false := decide_eq_false (by omega)
  have k4 : k < L := by omega
  clear hs g2 g3 o1 e2 e3 hn hk k2 k3 hL LN
  cases l with
  | true =>
    go_enter Try.func152, Try.ntmps152
    go_wp2_with (first
      | (go_at_call 68; (with_reducible refine (StateOk_r _ s _ (FN.out _ S.frame) O1.out).mono ?_); rintro e w9 ⟨rfl, f9⟩; replace S := S.fr f9; clear f9)
        | ((with_reducible refine gate_dst (N := 25) rfl ?_); refine wpList_rowint (by rfl) 4 _ rfl rfl (S.frame.cell G2.out) _ Try.underlying4 rfl ?_)
        | ((with_reducible refine gate_dst (N := 32) rfl ?_); refine wpList_rowint (by rfl) 4 _ rfl rfl (S.frame.cell G3.out) _ Try.underlying4 rfl ?_)
      | ((with_reducible refine gate_box rfl ?_); refine aBx S ?_; clear S; intro g9 w9 z9 S) | ((with_reducible refine gate_load rfl ?_); first | refine aLd S ?_ | refine aPt S ?_ | refine aL1 S ?_))
    go_ret
    exact ⟨by rw [HS.out]; rfl, S.frame⟩
  | false =>
    cases b with
    | true =>
      go_enter Try.func152, Try.ntmps152
      go_wp2_with (first
      | (go_at_call 68; (with_reducible refine (StateOk_r _ s _ (FN.out _ S.frame) O1.out).mono ?_); rintro e w9 ⟨rfl, f9⟩; replace S := S.fr f9; clear f9)
        | ((with_reducible refine gate_dst (N := 25) rfl ?_); refine wpList_rowint (by rfl) 4 _ rfl rfl (S.frame.cell G2.out) _ Try.underlying4 rfl ?_)
        | ((with_reducible refine gate_dst (N := 32) rfl ?_); refine wpList_rowint (by rfl) 4 _ rfl rfl (S.frame.cell G3.out) _ Try.underlying4 rfl ?_)
      | ((with_reducible refine gate_box rfl ?_); refine aBx S ?_; clear S; intro g9 w9 z9 S) | ((with_reducible refine gate_load rfl ?_); first | refine aLd S ?_ | refine aPt S ?_ | refine aL1 S ?_))
      go_ret
      exact ⟨by rw [HS.out]; rfl, S.frame⟩
    | false =>
      go_enter Try.func152, Try.ntmps152
      go_wp2_with (first
      | (go_at_call 68; (with_reducible refine (StateOk_r _ s _ (FN.out _ S.frame) O1.out).mono ?_); rintro e w9 ⟨rfl, f9⟩; replace S := S.fr f9; clear f9)
        | ((with_reducible refine gate_dst (N := 25) rfl ?_); refine wpList_rowint (by rfl) 4 _ rfl rfl (S.frame.cell G2.out) _ Try.underlying4 rfl ?_)
        | ((with_reducible refine gate_dst (N := 32) rfl ?_); refine wpList_rowint (by rfl) 4 _ rfl rfl (S.frame.cell G3.out) _ Try.underlying4 rfl ?_)
      | ((with_reducible refine gate_box rfl ?_); refine aBx S ?_; clear S; intro g9 w9 z9 S) | ((with_reducible refine gate_load rfl ?_); first | refine aLd S ?_ | refine aPt S ?_ | refine aL1 S ?_))
      go_ret
      exact ⟨by rw [HS.out]; rfl, S.frame⟩
set_option maxHeartbeats 1600000 in
theorem fateAt_c (w : World) (s : St) (c0 : List Value) (h1 : tSt.rd w s c0) (k : Nat) (hk : k < s.got.length) (h8 : s.got.length = 8) : Calls Try.prog 153 #[.agg c0.toArray, .int .i64 ((k : Int) + 1)] w (Ret (fateV s.got[k]) w) := by
  obtain ⟨v1, v2, v3, v4, rfl, h11, h12, h13, h14, h15⟩ := h1
  obtain ⟨A4, c4, rfl⟩ := h14.val
  obtain ⟨ad4, rfl, g4⟩ := row_int_at h14 k hk
  have S := Sep.start w
  rw [h8]
  have k8 : k < 8 := by omega
  have pw : IntKind.i64.wrap ((k : Int) + 1 - 1) = k := by rw [show (k : Int) + 1 - 1 = k by omega]; exact IntWalk.i64_in _ (by omega)
  have pw2 : IntKind.i64.wrap (k : Int) = k := IntWalk.i64_in _ (by omega)
  have p1 : (k : Int) < 8 := by omega
  have G4 := Lib.hid g4
  clear g4 h11 h12 h13 h14 h15
  go_enter Try.func153, Try.ntmps153
  go_wp2_with (first
    | ((with_reducible refine gate_dst (N := 13) rfl ?_); refine wpList_rowint (by rfl) 3 _ rfl rfl (S.frame.cell G4.out) _ Try.underlying3 rfl ?_)
    | (go_at_call 146; (with_reducible refine (fateOf_c _ _).mono ?_); rintro e w9 ⟨rfl, rfl⟩)
    | ((with_reducible refine gate_box rfl ?_); refine aBx S ?_; clear S; intro g9 w9 z9 S) | ((with_reducible refine gate_load rfl ?_); first | refine aLd S ?_ | refine aPt S ?_ | refine aL1 S ?_))
  go_ret
  exact ⟨rfl, S.frame⟩
set_option maxHeartbeats 1600000 in
theorem StateGot_c (w : World) (s : St) (c0 : List Value) (h1 : tSt.rd w s c0) (n : Int) : Calls Try.prog 139 #[.agg c0.toArray, .int .i64 n] w (Ret (.int .i64 (gotV s n)) w) := by
  have Q := Lib.hid h1
  obtain ⟨v1, v2, v3, v4, rfl, h11, h12, h13, h14, h15⟩ := h1
  obtain ⟨A4, c4, rfl⟩ := h14.val
  have FIN := Lib.hid (fun (W : World) (f : Fr w W) => tSt.fr f Q.out)
  have S := Sep.start w
  clear h11 h12 h13 h15
  by_cases hn : 1 ≤ n ∧ n ≤ 8
  case neg =>
    have r := Lib.hid (show gotV s n = 0 by unfold gotV; rw [if_neg]; rintro ⟨_, h⟩; exact hn h)
    cases o1 : okSt s with
    | false =>
      have O1 := Lib.hid o1
      clear o1
      by_cases n1 : n < 1
      · have t1 : decide (n < 1) = true := decide_eq_true n1
        clear hn n1
        go_enter Try.func139, Try.ntmps139
        go_wp2_with (first
      | (go_at_call 68; (with_reducible refine (StateOk_r _ s _ (FIN.out _ S.frame) O1.out).mono ?_); rintro e w9 ⟨rfl, f9⟩; replace S := S.fr f9; clear f9)
      | ((with_reducible refine gate_box rfl ?_); refine aBx S ?_; clear S; intro g9 w9 z9 S) | ((with_reducible refine gate_load rfl ?_); first | refine aLd S ?_ | refine aPt S ?_ | refine aL1 S ?_))
        go_ret
        exact ⟨by rw [r.out]; rfl, S.frame⟩
      · have t1 : decide (n < 1) = false := decide_eq_false n1
        have t2 : decide (8 < n) = true := decide_eq_true (by omega)
        clear hn n1
        go_enter Try.func139, Try.ntmps139
        go_wp2_with (first
      | (go_at_call 68; (with_reducible refine (StateOk_r _ s _ (FIN.out _ S.frame) O1.out).mono ?_); rintro e w9 ⟨rfl, f9⟩; replace S := S.fr f9; clear f9)
      | ((with_reducible refine gate_box rfl ?_); refine aBx S ?_; clear S; intro g9 w9 z9 S) | ((with_reducible refine gate_load rfl ?_); first | refine aLd S ?_ | refine aPt S ?_ | refine aL1 S ?_))
        go_ret
        exact ⟨by rw [r.out]; rfl, S.frame⟩
    | true =>
      have O1 := Lib.hid o1
      clear o1
      by_cases n1 : n < 1
      · have t1 : decide (n < 1) = true := decide_eq_true n1
        clear hn n1
        go_enter Try.func139, Try.ntmps139
        go_wp2_with (first
      | (go_at_call 68; (with_reducible refine (StateOk_r _ s _ (FIN.out _ S.frame) O1.out).mono ?_); rintro e w9 ⟨rfl, f9⟩; replace S := S.fr f9; clear f9)
      | ((with_reducible refine gate_box rfl ?_); refine aBx S ?_; clear S; intro g9 w9 z9 S) | ((with_reducible refine gate_load rfl ?_); first | refine aLd S ?_ | refine aPt S ?_ | refine aL1 S ?_))
        go_ret
        exact ⟨by rw [r.out]; rfl, S.frame⟩
      · have t1 : decide (n < 1) = false := decide_eq_false n1
        have t2 : decide (8 < n) = true := decide_eq_true (by omega)
        clear hn n1
        go_enter Try.func139, Try.ntmps139
        go_wp2_with (first
      | (go_at_call 68; (with_reducible refine (StateOk_r _ s _ (FIN.out _ S.frame) O1.out).mono ?_); rintro e w9 ⟨rfl, f9⟩; replace S := S.fr f9; clear f9)
      | ((with_reducible refine gate_box rfl ?_); refine aBx S ?_; clear S; intro g9 w9 z9 S) | ((with_reducible refine gate_load rfl ?_); first | refine aLd S ?_ | refine aPt S ?_ | refine aL1 S ?_))
        go_ret
        exact ⟨by rw [r.out]; rfl, S.frame⟩
  obtain ⟨k, rfl⟩ : ∃ k : Nat, n = (k : Int) + 1 := ⟨(n - 1).toNat, by omega⟩
  have t1 : decide (((k : Int) + 1) < 1) = false := decide_eq_false (by omega)
  have t2 : decide (8 < ((k : Int) + 1)) = false := decide_eq_false (by omega)
  cases o1 : okSt s with
  | false =>
    have r := Lib.hid (show gotV s ((k : Int) + 1) = 0 by unfold gotV; rw [if_neg]; rintro ⟨h, _⟩; rw [o1] at h; cases h)
    have O1 := Lib.hid o1
    clear o1 hn
    go_enter Try.func139, Try.ntmps139
    go_wp2_with (first
      | (go_at_call 68; (with_reducible refine (StateOk_r _ s _ (FIN.out _ S.frame) O1.out).mono ?_); rintro e w9 ⟨rfl, f9⟩; replace S := S.fr f9; clear f9)
      | ((with_reducible refine gate_box rfl ?_); refine aBx S ?_; clear S; intro g9 w9 z9 S) | ((with_reducible refine gate_load rfl ?_); first | refine aLd S ?_ | refine aPt S ?_ | refine aL1 S ?_))
    go_ret
    exact ⟨by rw [r.out]; rfl, S.frame⟩
  | true =>
    have h8 := (okSt_len o1).2.2.2
    have hk : k < s.got.length := by omega
    have HK := Lib.hid hk
    have gk := okSt_got o1 k HK.out
    have r := Lib.hid (show gotV s ((k : Int) + 1) = s.got[k]'HK.out by unfold gotV; rw [if_pos ⟨o1, by omega, by omega⟩, show ((k : Int) + 1 - 1).toNat = k by omega]; simp [hk])
    have G3 := Lib.hid (show s.got[k]'HK.out = 0 ∨ s.got[k]'HK.out = 1 ∨ s.got[k]'HK.out = 2 by omega)
    have O1 := Lib.hid o1
    have H8 := Lib.hid h8
    have k8 : k < 8 := by omega
    have pw : IntKind.i64.wrap ((k : Int) + 1 - 1) = k := by rw [show (k : Int) + 1 - 1 = k by omega]; exact IntWalk.i64_in _ (by omega)
    have pw2 : IntKind.i64.wrap (k : Int) = k := IntWalk.i64_in _ (by omega)
    have p1 : (k : Int) < 8 := by omega
    clear o1 hn hk h8 gk h14
    go_enter Try.func139, Try.ntmps139
    go_wp2_with (first
      | (go_at_call 68; (with_reducible refine (StateOk_r _ s _ (FIN.out _ S.frame) O1.out).mono ?_); rintro e w9 ⟨rfl, f9⟩; replace S := S.fr f9; clear f9)
      | (go_at_call 153; (with_reducible refine (fateAt_c _ s _ (FIN.out _ S.frame) k HK.out H8.out).mono ?_); rintro e w9 ⟨rfl, f9⟩; replace S := S.fr f9; clear f9)
      | (go_at_call 154; (with_reducible refine (fateEntry_c _ (s.got[k]'HK.out) G3.out).mono ?_); rintro e w9 ⟨rfl, rfl⟩)
      | ((with_reducible refine gate_box rfl ?_); refine aBx S ?_; clear S; intro g9 w9 z9 S) | ((with_reducible refine gate_load rfl ?_); first | refine aLd S ?_ | refine aPt S ?_ | refine aL1 S ?_))
    go_ret
    exact ⟨by rw [r.out]; rfl, S.frame⟩
end Go.Proofs.Ytapdcgjccckjeaa
