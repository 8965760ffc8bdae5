/- The contracts of the bank's functions, by what they are known to hand back. -/
import Derived.Test.YtnpggjlhdnbgoaaDrawBank2
import Derived.Test.YtnpggjlhdnbgoaaLw
import Derived.Test.YtnpggjlhdnbgoaaImplMove
import Derived.Test.YtnpggjlhdnbgoaaImplAway
import Derived.Test.YtnpggjlhdnbgoaaImplBack
namespace Go.Proofs.Ytnpggjlhdnbgoaa
set_option linter.unusedVariables false
set_option linter.unusedSimpArgs false
open Go.RowKit
theorem BankMove_e (w : World) (b : Bk) (c1 : List Value) (h1 : tBk.rd w b c1) (k fr ds s : Int) (bk : I64 k) (bf : I64 fr) (bd : I64 ds) (bs : I64 s) {x : Bk} {ok : Bool} (hR : moveR b k fr ds s = (x, ok)) : Calls Try.prog 32 #[.agg c1.toArray, .int .i64 k, .int .i64 fr, .int .i64 ds, .int .i64 s] w (RetOwn2 tBk (x, ok) w) :=
  hR ▸ BankMove_c w b c1 h1 k fr ds s bk bf bd bs
theorem sBankMove_e (w : World) (b : Bk) (c1 : List Value) (h1 : tBk.rd w b c1) (k fr ds s : Int) (bk : I64 k) (bf : I64 fr) (bd : I64 ds) (bs : I64 s) {x : Bk} {ok : Bool} (hR : moveR b k fr ds s = (x, ok)) : Calls Try.prog 31 #[.agg c1.toArray, .int .i64 k, .int .i64 fr, .int .i64 ds, .int .i64 s] w (RetOwn2 tBk (x, ok) w) :=
  hR ▸ sBankMove_c w b c1 h1 k fr ds s bk bf bd bs
theorem BankAway_e (w : World) (b : Bk) (c1 : List Value) (h1 : tBk.rd w b c1) (k fr s : Int) (bk : I64 k) (bf : I64 fr) (bs : I64 s) {x : Bk} {ok : Bool} (hR : awayR b k fr s = (x, ok)) : Calls Try.prog 36 #[.agg c1.toArray, .int .i64 k, .int .i64 fr, .int .i64 s] w (RetOwn2 tBk (x, ok) w) :=
  hR ▸ BankAway_c w b c1 h1 k fr s bk bf bs
theorem sBankAway_e (w : World) (b : Bk) (c1 : List Value) (h1 : tBk.rd w b c1) (k fr s : Int) (bk : I64 k) (bf : I64 fr) (bs : I64 s) {x : Bk} {ok : Bool} (hR : awayR b k fr s = (x, ok)) : Calls Try.prog 35 #[.agg c1.toArray, .int .i64 k, .int .i64 fr, .int .i64 s] w (RetOwn2 tBk (x, ok) w) :=
  hR ▸ sBankAway_c w b c1 h1 k fr s bk bf bs
theorem BankBack_e (w : World) (b : Bk) (c1 : List Value) (h1 : tBk.rd w b c1) (k fr s : Int) (bk : I64 k) (bf : I64 fr) (bs : I64 s) {x : Bk} {ok : Bool} (hR : backR b k fr s = (x, ok)) : Calls Try.prog 39 #[.agg c1.toArray, .int .i64 k, .int .i64 fr, .int .i64 s] w (RetOwn2 tBk (x, ok) w) :=
  hR ▸ BankBack_c w b c1 h1 k fr s bk bf bs
theorem sBankBack_e (w : World) (b : Bk) (c1 : List Value) (h1 : tBk.rd w b c1) (k fr s : Int) (bk : I64 k) (bf : I64 fr) (bs : I64 s) {x : Bk} {ok : Bool} (hR : backR b k fr s = (x, ok)) : Calls Try.prog 38 #[.agg c1.toArray, .int .i64 k, .int .i64 fr, .int .i64 s] w (RetOwn2 tBk (x, ok) w) :=
  hR ▸ sBankBack_c w b c1 h1 k fr s bk bf bs
theorem BankOk_e (w : World) (b : Bk) (c1 : List Value) (h1 : tBk.rd w b c1) {r : Bool} (ho : okBk b = r) : Calls Try.prog 26 #[.agg c1.toArray] w (Ret (.bool r) w) := ho ▸ BankOk_c w b c1 h1
theorem sBankOk_e (w : World) (b : Bk) (c1 : List Value) (h1 : tBk.rd w b c1) {r : Bool} (ho : okBk b = r) : Calls Try.prog 24 #[.agg c1.toArray] w (Ret (.bool r) w) := ho ▸ sBankOk_c w b c1 h1
theorem BankAll_e (w : World) (b : Bk) (c1 : List Value) (h1 : tBk.rd w b c1) (ho : okBk b = true) : Calls Try.prog 28 #[.agg c1.toArray] w (Ret (.tuple #[.int .i64 (b.own.sum + b.locked), .int .i64 b.notes.sum]) w) := by
  have h := BankAll_c w b c1 h1
  rw [allBk, if_pos ho] at h
  exact h
theorem sBankAll_e (w : World) (b : Bk) (c1 : List Value) (h1 : tBk.rd w b c1) (ho : okBk b = true) : Calls Try.prog 27 #[.agg c1.toArray] w (Ret (.tuple #[.int .i64 (b.own.sum + b.locked), .int .i64 b.notes.sum]) w) := by
  have h := sBankAll_c w b c1 h1
  rw [allBk, if_pos ho] at h
  exact h
theorem BankAll_x (w : World) (b : Bk) (c1 : List Value) (h1 : tBk.rd w b c1) (ho : okBk b = true) {x y : Int} (hx : b.own.sum + b.locked = x) (hy : b.notes.sum = y) : Calls Try.prog 28 #[.agg c1.toArray] w (Ret (.tuple #[.int .i64 x, .int .i64 y]) w) := by
  subst hx hy
  exact BankAll_e w b c1 h1 ho
theorem sBankAll_x (w : World) (b : Bk) (c1 : List Value) (h1 : tBk.rd w b c1) (ho : okBk b = true) {x y : Int} (hx : b.own.sum + b.locked = x) (hy : b.notes.sum = y) : Calls Try.prog 27 #[.agg c1.toArray] w (Ret (.tuple #[.int .i64 x, .int .i64 y]) w) := by
  subst hx hy
  exact sBankAll_e w b c1 h1 ho
theorem lwHas_e (w : World) (b : Bk) (c1 : List Value) (k u : Int) (h1 : tBk.rd w b c1) (ho : okBk b = true) (hk : k = 1 ∨ k = 2) (hu : 1 ≤ u ∧ u ≤ 3) {x : Int} (hx : hasBk b k u = x) : Calls Try.prog 40 #[.agg c1.toArray, .int .i64 k, .int .i64 u] w (Ret (.int .i64 x) w) := hx ▸ lwHas_c w b c1 k u h1 ho hk hu
theorem rd_notes {w : World} {b : Bk} {v1 v2 v3 : Value} {xs : List Int} (h : tBk.rd w b [v1, v2, v3]) (e : b.notes = xs) : tInt.row w v2 xs := by
  obtain ⟨_, _, e1, _, h2, _⟩ := h
  simp only [List.cons.injEq] at e1
  obtain ⟨rfl, rfl, _⟩ := e1
  exact e ▸ h2
theorem rd_own {w : World} {b : Bk} {v1 v2 v3 : Value} {xs : List Int} (h : tBk.rd w b [v1, v2, v3]) (e : b.own = xs) : tInt.row w v1 xs := by
  obtain ⟨_, _, e1, h2, _, _⟩ := h
  simp only [List.cons.injEq] at e1
  obtain ⟨rfl, rfl, _⟩ := e1
  exact e ▸ h2
end Go.Proofs.Ytnpggjlhdnbgoaa
