/- Versions among the arguments, as the runner writes them. -/
import Derived.Test.YtodelhgblkhjgaaGreatDoorG3
namespace Go.Ab
open Go
theorem okI_of {n : Int} (h : (Lit.int .i64 n).wf = true) : okI n := by simpa [Lit.wf, IntKind.min, IntKind.max, IntKind.bits, IntKind.signed, okI] using h
def okAttr (a : Attr) : Prop := okI a.Key ∧ okI a.Val
theorem wf_attr {as : List AV} (h : (Ty.agg [.int .i64, .int .i64]).Wf as) : ∃ a, (Ty.agg [.int .i64, .int .i64]).join as = encAttr a ∧ okAttr a := by
  simp only [Ty.Wf, Ty.WfAll] at h
  obtain ⟨a, r, rfl, ⟨n0, rfl, h0⟩, b, r', rfl, ⟨n1, rfl, h1⟩, rfl⟩ := h
  exact ⟨⟨n0, n1⟩, rfl, okI_of h0, okI_of h1⟩
def okVersion (v : Version) : Prop := okI v.Item ∧ okI v.S.L ∧ okI v.S.R ∧ okI v.S.N ∧ (∀ a ∈ v.Attrs, okAttr a) ∧ v.Attrs.length ≤ maxLen ∧ v.Tag.length ≤ maxLen ∧ v.Body.length ≤ maxLen
abbrev tyVersion : Ty := .agg [.int .i64, .agg [.int .i64, .int .i64, .int .i64], .bool, .slice (.agg [.int .i64, .int .i64]), .str, .str]
theorem wf_version {as : List AV} (h : tyVersion.Wf as) : ∃ v, tyVersion.join as = encVersion v ∧ okVersion v := by
  have h' : Ty.WfAll [.int .i64, .agg [.int .i64, .int .i64, .int .i64], .bool, .slice (.agg [.int .i64, .int .i64]), .str, .str] as := by unfold Ty.Wf at h; exact h
  unfold Ty.WfAll at h'
  obtain ⟨a0, r0, rfl, h0, h'⟩ := h'
  unfold Ty.WfAll at h'
  obtain ⟨a1, r1, rfl, h1, h'⟩ := h'
  unfold Ty.WfAll at h'
  obtain ⟨a2, r2, rfl, h2, h'⟩ := h'
  unfold Ty.WfAll at h'
  obtain ⟨a3, r3, rfl, h3, h'⟩ := h'
  unfold Ty.WfAll at h'
  obtain ⟨a4, r4, rfl, h4, h'⟩ := h'
  unfold Ty.WfAll at h'
  obtain ⟨a5, r5, rfl, h5, h'⟩ := h'
  unfold Ty.WfAll at h'
  subst h'
  obtain ⟨l, el, ol, ll⟩ := wf_rows encAttr okAttr (fun as h => wf_attr h) h3
  unfold Ty.Wf at h0 h2 h3 h4 h5
  simp only [Ty.Wf, Ty.WfAll] at h1
  obtain ⟨n0, rfl, k0⟩ := h0
  obtain ⟨x1, y1, rfl, ⟨m1, rfl, k1⟩, x2, y2, rfl, ⟨m2, rfl, k2⟩, x3, y3, rfl, ⟨m3, rfl, k3⟩, rfl⟩ := h1
  obtain ⟨d, rfl⟩ := h2
  obtain ⟨rows, rfl, _⟩ := h3
  obtain ⟨s, rfl, ks⟩ := h4
  obtain ⟨t, rfl, kt⟩ := h5
  simp only [Ty.join, oneA] at el
  refine ⟨⟨n0, ⟨m1, m2, m3⟩, d, l, s, t⟩, ?_, okI_of k0, okI_of k1, okI_of k2, okI_of k3, ol, ll, ks, kt⟩
  simp [Ty.join, encVersion, el]
end Go.Ab
