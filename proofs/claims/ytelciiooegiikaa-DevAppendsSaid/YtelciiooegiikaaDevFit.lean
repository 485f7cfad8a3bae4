/- Devices that a law is given fit into memory. -/
import Derived.Test.YtelciiooegiikaaOpen1
import Derived.Test.YtelciiooegiikaaDevOwn
namespace Go.Proofs.Ytelciiooegiikaa
open Go.RowKit
set_option linter.unusedSimpArgs false
set_option linter.unusedVariables false
theorem wf_fit {d : DevD} (h : d.wf) : d.fit := by
  obtain ⟨⟨⟨_, h1⟩, _⟩, ⟨⟨_, h2⟩, _⟩, ⟨⟨_, h3⟩, _⟩, _⟩ := h
  have e1 : shWr.by = 32 := rfl
  have e2 : shVol.by = 40 := rfl
  rw [e1] at h2
  rw [e2] at h3
  exact ⟨h1, h2, h3⟩
end Go.Proofs.Ytelciiooegiikaa
