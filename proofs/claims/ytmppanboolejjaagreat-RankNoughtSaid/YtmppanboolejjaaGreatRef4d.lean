/- Package cardamomref4: what a text is as a filter. -/
import Derived.Test.YtmppanboolejjaaGreatRef4c
namespace Go.Ab.Tryz
open Go
set_option maxRecDepth 100000
set_option maxHeartbeats 4000000
noncomputable def parse (s : List UInt8) : Flt × Int × Bool := if h : s.length ≤ 100000 then Classical.choose (parse_ex s h) else (.leaf 0 0 0 0 [],0,false)
theorem parse_spec (s : List UInt8) (h : s.length ≤ 100000) : X.call 106 [.str s] [] ⟨.tuple [encFlt (parse s).1,.int .i64 (parse s).2.1,.bool (parse s).2.2],[],[]⟩ ∧ (parse s).1.ok ∧ (parse s).1.short ∧ ((parse s).2.2 = true → s.length ≤ 80) := by
  unfold parse; rw [dif_pos h]; exact Classical.choose_spec (parse_ex s h)
theorem c106 (s : List UInt8) (h : s.length ≤ 100000) : X.call 106 [.str s] [] ⟨.tuple [encFlt (parse s).1,.int .i64 (parse s).2.1,.bool (parse s).2.2],[],[]⟩ := (parse_spec s h).1
theorem parse_ok (s : List UInt8) : (parse s).1.ok := by
  by_cases h : s.length ≤ 100000
  · exact (parse_spec s h).2.1
  · unfold parse; rw [dif_neg h]; simp [Flt.ok]
theorem parse_short (s : List UInt8) : (parse s).1.short := by
  by_cases h : s.length ≤ 100000
  · exact (parse_spec s h).2.2.1
  · unfold parse; rw [dif_neg h]; simp [Flt.short]
theorem parse_len (s : List UInt8) (h : (parse s).2.2 = true) : s.length ≤ 80 := by
  by_cases h' : s.length ≤ 100000
  · exact (parse_spec s h').2.2.2 h
  · unfold parse at h; rw [dif_neg h'] at h; cases h
end Go.Ab.Tryz
