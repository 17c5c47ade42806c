/- Part 26. -/
import Derived.Test.YtnemnkmojiljmaaGreatH25
set_option maxRecDepth 100000
set_option maxHeartbeats 0
set_option linter.all false
namespace Go.Proofs
open Go Go.RowKit Go.Maps
variable [Lo.St]
theorem Lo.GD (a b l h:Int) (w:World):Calls Lo.prog 55 #[.agg #[.int .i64 a,.int .i64 b],.int .i64 l,.int .i64 h] w λe w'=>e= .returned (.bool (eT a b l h))∧Below w.heap.size w w':=by
 obtain ⟨U,U2,U3,U4,U5,U6⟩:=Lo.facts
 by_cases h1:l<=a
 ·by_cases h2:a<=b
  ·by_cases h3:b<=h
   ·go_enter Lo.get Tryz.func55,Tryz.ntmps55;go_wp2;go_ret;exact ⟨by simp [eT,h1,h2,h3],(di _ _).alloc (aJ _) _⟩
   ·go_enter Lo.get Tryz.func55,Tryz.ntmps55;go_wp2;go_ret;exact ⟨by simp [eT,h1,h2,h3],(di _ _).alloc (aJ _) _⟩
  ·go_enter Lo.get Tryz.func55,Tryz.ntmps55;go_wp2;go_ret;exact ⟨by simp [eT,h1,h2];intro h;omega,(di _ _).alloc (aJ _) _⟩
 ·go_enter Lo.get Tryz.func55,Tryz.ntmps55;go_wp2;go_ret;exact ⟨by simp [eT,h1];intro h;omega,(di _ _).alloc (aJ _) _⟩
end Go.Proofs
