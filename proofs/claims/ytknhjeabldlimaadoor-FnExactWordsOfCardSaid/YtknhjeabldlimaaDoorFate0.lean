/- The program's decimal, where the table of powers of ten reads as the library lays it: the numeral, and nothing but new memory. -/
import Derived.Test.YtknhjeabldlimaaDoorShelfA
import Derived.Lib.AppendIntMem
import Derived.Test.YtknhjeabldlimaaDoorBig
namespace Go.Proofs.YtknhjeabldlimaaDoor.Fate
open Go.RowKit Go.Proofs.YtknhjeabldlimaaDoorW.PrintWords Go.Proofs.YtknhjeabldlimaaDoorW.PrintLast Go.Proofs.YtknhjeabldlimaaDoorW.PrintMore Go.Proofs.YtknhjeabldlimaaDoor.Big
set_option linter.unusedVariables false
set_option linter.unusedSimpArgs false
/-- The library's table of powers of ten. -/
def Tab (w : World) : Prop := Lib.TabIs Tryd.prog w "internal/strconv.uint64pow10" .u64 Lib.pow10Tab
def dec (n : Int) : ByteArray := ⟨(Lib.itoa n).toArray⟩
def DecPost (n : Int) (w : World) (e : Ending) (w' : World) : Prop := e = .returned (.string (dec n)) ∧ Below w.heap.size w w'
set_option maxHeartbeats 4000000 in
theorem decimal_any (n : Int) (h0 : -9223372036854775808 ≤ n) (h1 : n ≤ 9223372036854775807) (w : World) (htab : Tab w) : Calls Tryd.prog 41 #[.int .i64 n] w (DecPost n w) := by
  have HT := Aside0.mk htab
  have H01 := Aside0.mk (And.intro h0 h1)
  clear htab h0 h1
  go_enter Tryd.func41, Tryd.ntmps41
  go_wp2_with (first | ((with_reducible refine gate_dst (N := 4) rfl ?_); refine goesL_ (some 4) rfl rfl Tryd.func49 (by kernel_rfl) rfl #[.int .i64 n, .int .i64 10] rfl (by (try simp only [List.map_toArray, List.map_cons, List.map_nil]); first | done | rfl) ?_; (refine (Tryd.strconv_FormatInt_10 n H01.out.1 H01.out.2 _ HT.out).mono ?_); rintro e w_ ⟨rfl, k_, os_, hw_⟩; refine ⟨_, rfl, ?_⟩; have HB := Aside0.mk (show Below w.heap.size w w_ by rw [hw_]; exact Lib.below_grow _ _ (Nat.le_refl _) k_ os_); clear hw_))
  go_ret
  exact ⟨rfl, HB.out⟩
end Go.Proofs.YtknhjeabldlimaaDoor.Fate
