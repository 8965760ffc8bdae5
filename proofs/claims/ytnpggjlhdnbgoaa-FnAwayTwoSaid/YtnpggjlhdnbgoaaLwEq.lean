/- The contracts of the bank's functions, by what they are known to hand back. -/
import Derived.Test.YtnpggjlhdnbgoaaDrawBank2
import Derived.Test.YtnpggjlhdnbgoaaLw
import Derived.Test.YtnpggjlhdnbgoaaImplMove
import Derived.Test.YtnpggjlhdnbgoaaImplAway
import Derived.Test.YtnpggjlhdnbgoaaImplBack
namespace Go.Proofs.Ytnpggjlhdnbgoaa
set_option linter.unusedVariables false
set_option linter.unusedSimpArgs false
open Go.RowKit
theorem BankMove_e (w : World) (b : Bk) (c1 : List Value) (h1 : tBk.rd w b c1) (k fr ds s : Int) (bk : I64 k) (bf : I64 fr) (bd : I64 ds) (bs : I64 s) {x : Bk} {ok : Bool} (hR : moveR b k fr ds s = (x, ok)) : Calls Try.prog 32 #[.agg c1.toArray, .int .i64 k, .int .i64 fr, .int .i64 ds, .int .i64 s] w (RetOwn2 tBk (x, ok) w) :=
  hR ▸ BankMove_c w b c1 h1 k fr ds s bk bf bd bs
theorem sBankMove_e (w : World) (b : Bk) (c1 : List Value) (h1 : tBk.rd w b c1) (k fr ds s : Int) (bk : I64 k) (bf : I64 fr) (bd : I64 ds) (bs : I64 s) {x : Bk} {ok : Bool} (hR : moveR b k fr ds s = (x, ok)) : Calls Try.prog 31 #[.agg c1.toArray, .int .i64 k, .int .i64 fr, .int .i64 ds, .int .i64 s] w (RetOwn2 tBk (x, ok) w) :=
  hR ▸ sBankMove_c w b c1 h1 k fr ds s bk bf bd bs
theorem BankAway_e (w : World) (b : Bk) (c1 : List Value) (h1 : tBk.rd w b c1) (k fr s : Int) (bk : I64 k) (bf : I64 fr) (bs : I64 s) {x : Bk} {ok : Bool} (hR : awayR b k fr s = (x, ok)) : Calls Try.prog 36 #[.agg c1.toArray, .int .i64 k, .int .i64 fr, .int .i64 s] w (RetOwn2 tBk (x, ok) w) :=
  hR ▸ BankAway_c w b c1 h1 k fr s bk bf bs
theorem sBankAway_e (w : World) (b : Bk) (c1 : List Value) (h1 : tBk.rd w b c1) (k fr s : Int) (bk : I64 k) (bf : I64 fr) (bs : I64 s) {x : Bk} {ok : Bool} (hR : awayR b k fr s = (x, ok)) : Calls Try.prog 35 #[.agg c1.toArray, .int .i64 k, .int .i64 fr, .int .i64 s] w (RetOwn2 tBk (x, ok) w) :=
  hR ▸ sBankAway_c w b c1 h1 k fr s bk bf bs
theorem BankBack_e (w : World) (b : Bk) (c1 : List Value) (h1 : tBk.rd w b c1) (k fr s : Int) (bk : I64 k) (bf : I64 fr) (bs : I64 s) {x : Bk} {ok : Bool} (hR : backR b k fr s = (x, ok)) : Calls Try.prog 39 #[.agg c1.toArray, .int .i64 k, .int .i64 fr, .int .i64 s] w (RetOwn2 tBk (x, ok) w) :=
  hR ▸ BankBack_c w b c1 h1 k fr s bk bf bs
theorem sBankBack_e (w : World) (b : Bk) (c1 : List Value) (h1 : tBk.rd w b c1) (k fr s : Int) (bk : I64 k) (bf : I64 fr) (bs : I64 s) {x : Bk} {ok : Bool} (hR : backR b k fr s = (x, ok)) : Calls Try.prog 38 #[.agg c1.toArray, .int .i64 k, .int .i64 fr, .int .i64 s] w (RetOwn2 tBk (x, ok) w) :=
  hR ▸ sBankBack_c w b c1 h1 k fr s bk bf bs
theorem BankOk_e (w : World) (b : Bk) (c1 : List Value) (h1 : tBk.rd w b c1) {r : Bool} (ho : okBk b = r) : Calls Try.prog 26 #[.agg c1.toArray] w (Ret (.bool r) w) := ho ▸ BankOk_c w b c1 h1
theorem sBankOk_e (w : World) (b : Bk) (c1 : List Value) (h1 : tBk.rd w b c1) {r : Bool} (ho : okBk b = r) : Calls Try.prog 24 #[.agg c1.toArray] w (Ret (.bool r) w) := ho ▸ sBankOk_c w b c1 h1
theorem BankAll_e (w : World) (b : Bk) (c1 : List Value) (h1 : tBk.rd w b c1) (ho : okBk b = true) : Calls Try.prog 28 #[.agg c1.toArray] w (Ret (.tuple #[.int .i64 (b.own.sum + b.locked), .int .i64 b.notes.sum]) w) := by
  have h := BankAll_c w b c1 h1
  rw [allBk, if_pos ho] at h
  exact h
theorem sBankAll_e (w : World) (b : Bk) (c1 : List Value) (h1 : tBk.rd w b c1) (ho : okBk b = true) : Calls Try.prog 27 #[.agg c1.toArray] w (Ret (.tuple #[.int .i64 (b.own.sum + b.locked), .int .i64 b.notes.sum]) w) := by
  have h := sBankAll_c w b c1 h1
  rw [allBk, if_pos ho] at h
  exact h
end Go.Proofs.Ytnpggjlhdnbgoaa
