/- Devices that a law is given fit into memory. -/
import Derived.Test.YtmkcamfanimdoaaOpen1
import Derived.Test.YtmkcamfanimdoaaDevOwn
namespace Go.Proofs.Ytmkcamfanimdoaa
open Go.RowKit
theorem wf_fit {d : DevD} (h : d.wf) : d.fit := by
  obtain ⟨⟨⟨_, h1⟩, _⟩, ⟨⟨_, h2⟩, _⟩, ⟨⟨_, h3⟩, _⟩, _⟩ := h
  have e1 : shWr.by = 32 := rfl
  have e2 : shVol.by = 40 := rfl
  rw [e1] at h2
  rw [e2] at h3
  exact ⟨h1, h2, h3⟩
end Go.Proofs.Ytmkcamfanimdoaa
